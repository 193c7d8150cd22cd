/- keys: the reference Of, Kinds, Order; same -/
import Derived.Test.YtaojcncmbbgmcaaW
set_option linter.unusedVariables false
set_option linter.unusedSimpArgs false
namespace Go.Proofs.Ytaojcncmbbgmcaa
open Go.Sep Go.RowKit

/-! ## Into its place -/
theorem insK_at {a : Kv 8} : ∀ {l : List (Kv 8)} {p : Nat}, p ≤ l.length → (∀ j y, j < p → l[j]? = some y → kcmp y a < 0) → (∀ y, l[p]? = some y → ¬ kcmp y a < 0) → insK a l = if l[p]? = some a then l else l.take p ++ [a] ++ l.drop p
  | [], p, hp, _, _ => by
    have : p = 0 := by simpa using hp
    subst this; simp [insK]
  | y :: l, 0, hp, h1, h2 => by
    have := h2 y rfl
    simp only [insK, if_neg this]
    by_cases e : y = a
    · subst e; simp
    · simp [e]
  | y :: l, p + 1, hp, h1, h2 => by
    have hy := h1 0 y (Nat.succ_pos _) rfl
    have ih := insK_at (a := a) (l := l) (p := p) (by simpa using hp) (fun j z hj hz => h1 (j + 1) z (by omega) hz) (fun z hz => h2 z hz)
    simp only [insK, if_pos hy, ih, List.getElem?_cons_succ, List.take_succ_cons, List.drop_succ_cons, List.cons_append]
    split <;> rfl
theorem oi_snoc (l : List (Kv 8)) (a : Kv 8) : oi (l ++ [a]) = if kck a = true then insK a (oi l) else oi l := by simp [oi]
/-- Has it not been seen so far? -/
def newK (l : List (Kv 8)) (j : Nat) (x : Kv 8) : Bool := decide (x ∉ l.take j)
theorem new_zero (l : List (Kv 8)) (x : Kv 8) : newK l 0 x = true := by simp [newK]
theorem new_succ {l : List (Kv 8)} {j : Nat} {x y : Kv 8} (h : l[j]? = some y) : newK l (j + 1) x = (newK l j x && !decide (y = x)) := by
  unfold newK
  rw [List.take_add_one, h]
  by_cases h1 : x ∈ l.take j
  · simp [h1]
  · by_cases h2 : y = x
    · subst h2; simp
    · have : ¬ x = y := fun e => h2 e.symm
      simp [h1, h2, this]
theorem dd_count {l : List (Kv 8)} {i : Nat} {x : Kv 8} (h : l[i]? = some x) : (dd (l.take (i + 1))).length = (dd (l.take i)).length + (if newK l i x then 1 else 0) := by
  rw [List.take_add_one, h]
  show (dd (l.take i ++ [x])).length = _
  rw [dd_snoc]
  unfold add1 newK
  by_cases hm : x ∈ l.take i
  · rw [if_pos (dd_mem.2 hm)]; simp [hm]
  · rw [if_neg (fun h => hm (dd_mem.1 h))]; simp [hm]
/-! ## A key out of a text, byte by byte -/
theorem kof_step {s : ByteArray} {n : Int} {i : Nat} {b : UInt8} (hb : s[i]? = some b) (h : i < 8) : (kc n ((byt s).take i ++ List.replicate (8 - i) 0)).set (0 + 1 + i * 1) (.int .u8 (b.toNat : Int)) = kc n ((byt s).take (i + 1) ++ List.replicate (8 - (i + 1)) 0) := by
  rw [kc_set]
  congr 1
  have hs : i < s.size := by
    rcases Nat.lt_or_ge i s.size with h | h
    · exact h
    · rw [getElem?_neg s i (by omega)] at hb; cases hb
  have hl : i < (byt s).length := by rw [byt_len]; exact hs
  have e : (byt s)[i]? = some (b.toNat : Int) := by
    rw [getElem?_pos s i hs] at hb
    unfold byt
    rw [List.getElem?_map, Array.getElem?_toList, Array.getElem?_eq_getElem hs]
    exact congrArg (fun z : Option UInt8 => z.map (fun b => (b.toNat : Int))) hb
  rw [List.take_add_one, e, List.set_append_right _ _ (by simp; omega)]
  rw [show 8 - i = (8 - (i + 1)) + 1 from by omega, List.replicate_succ]
  simp [show min i (byt s).length = i by omega]
theorem kof_cells {s : ByteArray} (h : s.size ≤ 8) : kc (s.size : Int) ((byt s).take s.size ++ List.replicate (8 - s.size) 0) = (kof s h).c := by
  show _ = kc (((byt s).length : Nat) : Int) (byt s ++ List.replicate (8 - (byt s).length) 0)
  rw [byt_len, List.take_of_length_le (by rw [byt_len]; exact Nat.le_refl _)]
theorem kof_wide {s : ByteArray} {i : Nat} (h : s.size ≤ 8) (hi : i ≤ s.size) : ((byt s).take i ++ List.replicate (8 - i) 0).length = 8 := by
  have := byt_len s; simp; omega
theorem str_at {s : ByteArray} {i : Nat} (h : i < s.size) : ∃ b, s[i]? = some b := ⟨s[i]'h, getElem?_pos s i h⟩

set_option maxRecDepth 100000 in
set_option maxHeartbeats 1000000 in
theorem rof_spec (s : ByteArray) (hs : s.size ≤ 8) : Con Try.prog 12 [.string s] (fun _ => True) [] (fun _ : Unit => .tuple #[.agg (kof s hs).c.toArray, .int .i64 0]) (fun _ => True) (fun _ => []) := by
  intro w hE hH
  refine enter (n := 27) (vs := [.string s]) (St w [] []) Try.func12 rfl rfl rfl (St.init hH) ?_
  refine c_seq ?_
  refine c_region _ rfl ?_
  refine l_e rfl ?_
  refine e_alloc rfl rfl rfl Try.zeroValue24 ?_
  intro br
  refine cells_eq (show _ = kc 0 z8 from rfl) ?_
  refine l_q rfl (q_assign rfl rfl) rfl rfl ?_
  refine l_nil ?_
  refine k_then ?_
  refine c_seq ?_
  refine c_region _ rfl ?_
  refine l_q rfl (q_build (kc 0 z8) rfl rfl (fun w => by kernel_rfl)) rfl rfl ?_
  refine l_e rfl ?_
  refine e_alloc rfl rfl rfl Try.zeroValue24 ?_
  intro bk
  refine cells_eq (show _ = kc 0 z8 from rfl) ?_
  refine l_e rfl ?_
  refine e_storeAgg rfl rfl Try.sizeOf24 rfl rfl rfl kc_one (Nat.le_of_ble_eq_true rfl) ?_
  refine cells_eq (kc_all z8_len z8_len) ?_
  refine l_nil ?_
  refine k_then ?_
  refine c_seq ?_
  refine c_seq ?_
  refine c_region _ rfl ?_
  refine l_q rfl (q_move rfl rfl) rfl rfl ?_
  refine l_q rfl (q_lenS rfl Try.underlying9 rfl) rfl rfl ?_
  refine l_q rfl (q_gtr rfl rfl rfl) rfl rfl ?_
  refine l_nil ?_
  refine k_then ?_
  refine Pre.setB (t := 9) (c := false) rfl (decide_eq_false (by omega)) ?_
  refine c_false rfl ?_
  refine c_skip ?_
  refine k_then ?_
  refine c_seq ?_
  refine c_region _ rfl ?_
  refine l_q rfl (q_move rfl rfl) rfl rfl ?_
  refine l_q rfl (q_lenS rfl Try.underlying9 rfl) rfl rfl ?_
  refine l_q rfl (q_fieldAddr rfl Try.underlying24 rfl Try.sizeOf3 rfl rfl) rfl rfl ?_
  refine l_e rfl ?_
  refine e_store rfl rfl Try.sizeOf3 rfl rfl rfl (by rw [kc_len z8_len]; decide) ?_
  refine cells_eq (kc_n) ?_
  refine l_nil ?_
  refine k_then ?_
  refine c_seq ?_
  refine c_seq ?_
  refine c_region _ rfl ?_
  refine l_q rfl (q_assign rfl rfl) rfl rfl ?_
  refine l_nil ?_
  refine k_then ?_
  refine c_block ?_
  refine pull1 ?_
  refine pull1 ?_
  refine c_loop1 (fun (i : Nat) => [(0, .string s), (2, .pointer (some ⟨br, 0, none⟩)), (3, .int .i64 0), (4, .pointer (some ⟨bk, 0, none⟩)), (5, .int .i64 (i : Int))]) (fun (i : Nat) => St w [] [cellsE bk 24 (kc (s.size : Int) ((byt s).take i ++ List.replicate (8 - i) 0)), cellsE br 24 (kc 0 z8)]) (fun (i : Nat) => i ≤ s.size) (fun (i : Nat) => s.size - i) (0) (Nat.zero_le _) (Sub.cons rfl (Sub.cons rfl (Sub.cons rfl (Sub.cons rfl (Sub.cons rfl (Sub.nil)))))) (fun _ h => h) ?_
  intro i hi
  refine c_seq ?_
  refine c_seq ?_
  have hll := kof_wide hs hi
  refine c_region _ rfl ?_
  refine l_q rfl (q_move rfl rfl) rfl rfl ?_
  refine l_q rfl (q_move rfl rfl) rfl rfl ?_
  refine l_q rfl (q_lenS rfl Try.underlying9 rfl) rfl rfl ?_
  refine l_q rfl (q_lss rfl rfl rfl) rfl rfl ?_
  refine l_nil ?_
  refine k_then ?_
  refine Pre.caseB 17 rfl (fun h1 => ?_) (fun h1 => ?_)
  · try simp only [decide_eq_true_eq, decide_eq_false_iff_not, Bool.not_eq_true', Bool.not_eq_false'] at h1
    obtain ⟨b, hb⟩ := str_at (s := s) (i := i) (by omega)
    refine c_true rfl ?_
    refine c_skip ?_
    refine k_then ?_
    refine c_seq ?_
    refine c_block ?_
    refine c_region _ rfl ?_
    refine l_q rfl (q_move rfl rfl) rfl rfl ?_
    refine l_q rfl (q_move rfl rfl) rfl rfl ?_
    refine l_q rfl (q_move rfl rfl) rfl rfl ?_
    refine l_q rfl (q_indexS i _ rfl Try.underlying9 rfl rfl rfl hb) rfl rfl ?_
    refine l_q rfl (q_fieldAddr rfl Try.underlying24 rfl Try.sizeOf22 rfl rfl) rfl rfl ?_
    refine l_q rfl (q_indexArr i rfl Try.underlying22 Try.sizeOf5 rfl rfl rfl (by omega)) rfl rfl ?_
    refine l_e rfl ?_
    refine e_store rfl rfl Try.sizeOf5 rfl rfl rfl (by rw [kc_len hll]; show 0 + 1 + i * 1 < 9; omega) ?_
    refine cells_eq (kof_step hb (by omega)) ?_
    refine l_nil ?_
    refine k_block ?_
    refine k_then ?_
    refine c_region _ rfl ?_
    refine l_q rfl (q_move rfl rfl) rfl rfl ?_
    refine l_q rfl (q_inc rfl rfl rfl (by omega)) rfl rfl ?_
    refine l_q rfl (q_assign rfl rfl) rfl rfl ?_
    refine l_nil ?_
    exact k_round (i + 1) (by omega) (by omega) (Sub.cons rfl (Sub.cons rfl (Sub.cons rfl (Sub.cons rfl (Sub.cons rfl (Sub.nil)))))) (fun _ h => h)
  · try simp only [decide_eq_true_eq, decide_eq_false_iff_not, Bool.not_eq_true', Bool.not_eq_false'] at h1
    have hie : i = s.size := by omega
    subst hie
    rw [kof_cells hs]
    refine c_false rfl ?_
    refine c_exit ?_
    refine k_then_exit ?_
    refine k_then_exit ?_
    refine k_block_exit ?_
    refine k_then ?_
    refine c_seq ?_
    refine c_region _ rfl ?_
    refine l_q rfl (q_loadCAgg ((kof s hs).c) rfl Try.isAgg24 Try.sizeOf24 rfl (fun _ h => h.at 0 rfl) (kv_whole _) (Kv.c_len _)) rfl rfl ?_
    refine pull1 ?_
    refine l_e rfl ?_
    refine e_storeAgg rfl rfl Try.sizeOf24 rfl rfl (Kv.c_len _) (Kv.one _) (by rw [Kv.c_len, kc_len z8_len]; decide) ?_
    refine cells_eq (Sep.splice_all (by rw [Kv.c_len, kc_len z8_len])) ?_
    refine l_q rfl (q_assign rfl rfl) rfl rfl ?_
    refine l_nil ?_
    refine k_then ?_
    refine c_ret ?_
    refine r_res2 rfl (res_cellA rfl Try.isAgg24 Try.sizeOf24 (fun _ h => h.at 0 rfl) (Kv.c_len _)) (show Sep.look _ _ = some _ from rfl) ?_
    exact fun _ h => ⟨(), rfl, trivial, h.nothing⟩
theorem gd {l : List Int} {k : Nat} (h : k < l.length) : l[k]? = some (l.getD k 0) := by simp [List.getD_eq_getElem?_getD, h]
theorem take_same {α : Type} {a b : List α} {k : Nat} {x y : α} (h : a.take k = b.take k) (hx : a[k]? = some x) (hy : b[k]? = some y) (e : x = y) : a.take (k + 1) = b.take (k + 1) := by
  subst e
  rw [List.take_add_one, List.take_add_one, hx, hy, h]

set_option maxRecDepth 100000 in
set_option maxHeartbeats 1000000 in
theorem same_spec {va vb : Value} (la lb : List (Kv 8)) (hn : la.length ≤ 4611686018427387904) : Con Try.prog 19 [va, vb] (fun w => RdV w va (Kv.enc 8) la ∧ RdV w vb (Kv.enc 8) lb) [] (fun _ : Unit => .bool (decide (la = lb))) (fun _ => True) (fun _ => []) := by
  intro w hE hH
  obtain ⟨ha, hb⟩ := hE
  refine enter (n := 26) (vs := [va, vb]) (St w [] []) Try.func19 rfl rfl rfl (St.init hH) ?_
  refine c_seq ?_
  refine c_region _ rfl ?_
  refine l_q rfl (q_assign rfl rfl) rfl rfl ?_
  refine l_nil ?_
  refine k_then ?_
  refine c_seq ?_
  refine c_seq ?_
  refine c_region _ rfl ?_
  refine l_q rfl (q_move rfl rfl) rfl rfl ?_
  refine l_q rfl (q_lenV rfl Try.underlying25 rfl (fun _ h => ha.keep h (by simp [dom]))) rfl rfl ?_
  refine l_q rfl (q_move rfl rfl) rfl rfl ?_
  refine l_q rfl (q_lenV rfl Try.underlying25 rfl (fun _ h => hb.keep h (by simp [dom]))) rfl rfl ?_
  refine l_q rfl (q_neq rfl rfl rfl) rfl rfl ?_
  refine l_nil ?_
  refine k_then ?_
  refine Pre.caseB 10 rfl (fun hl => ?_) (fun hl => ?_)
  · try simp only [decide_eq_true_eq, decide_eq_false_iff_not, Bool.not_eq_true', Bool.not_eq_false'] at hl
    refine c_true rfl ?_
    refine c_seq ?_
    refine c_region _ rfl ?_
    refine l_q rfl (q_assign rfl rfl) rfl rfl ?_
    refine l_nil ?_
    refine k_then ?_
    refine c_ret ?_
    refine k_then_ret ?_
    refine r_one rfl rfl ?_
    exact fun _ h => ⟨(), congrArg (fun z => Ending.returned (Value.bool z)) (decide_eq_false (fun e => hl (by rw [e]))).symm, trivial, h⟩
  · try simp only [decide_eq_true_eq, decide_eq_false_iff_not, Bool.not_eq_true', Bool.not_eq_false'] at hl
    refine c_false rfl ?_
    refine c_skip ?_
    refine k_then ?_
    refine c_seq ?_
    refine c_seq ?_
    refine c_region _ rfl ?_
    refine l_q rfl (q_assign rfl rfl) rfl rfl ?_
    refine l_nil ?_
    refine k_then ?_
    refine c_block ?_
    refine c_loop1 (fun (k : Nat) => [(0, va), (1, vb), (5, .int .i64 (k : Int))]) (fun (k : Nat) => St w [] []) (fun (k : Nat) => k ≤ la.length ∧ la.take k = lb.take k) (fun (k : Nat) => la.length - k) (0) ⟨Nat.zero_le _, rfl⟩ (Sub.cons rfl (Sub.cons rfl (Sub.cons rfl (Sub.nil)))) (fun _ h => h) ?_
    intro k hk
    refine c_seq ?_
    refine c_seq ?_
    obtain ⟨hk, ht⟩ := hk
    refine c_region _ rfl ?_
    refine l_q rfl (q_move rfl rfl) rfl rfl ?_
    refine l_q rfl (q_move rfl rfl) rfl rfl ?_
    refine l_q rfl (q_lenV rfl Try.underlying25 rfl (fun _ h => ha.keep h (by simp [dom]))) rfl rfl ?_
    refine l_q rfl (q_lss rfl rfl rfl) rfl rfl ?_
    refine l_nil ?_
    refine k_then ?_
    refine Pre.caseB 14 rfl (fun hlt => ?_) (fun hlt => ?_)
    · try simp only [decide_eq_true_eq, decide_eq_false_iff_not, Bool.not_eq_true', Bool.not_eq_false'] at hlt
      obtain ⟨x, hx⟩ : ∃ x, la[k]? = some x := ⟨_, List.getElem?_eq_getElem (by omega)⟩
      obtain ⟨y, hy⟩ : ∃ y, lb[k]? = some y := ⟨_, List.getElem?_eq_getElem (by omega)⟩
      refine c_true rfl ?_
      refine c_skip ?_
      refine k_then ?_
      refine c_seq ?_
      refine c_block ?_
      refine c_seq ?_
      refine c_draw [(0, some true), (1, some true), (2, some true), (3, some true), (4, some true), (5, some true), (6, some true), (7, some true), (8, some true)] [] [(_, some true), (_, some true), (_, some true), (_, some true), (_, some true), (_, some true), (_, some true), (_, some true), (_, some true)] _ (blind_then (blind_block (blind_then (blind_then (blind_block (blind_then blind_body)))))) rfl (by kernel_rfl) (by kernel_rfl) rfl rfl rfl (by kernel_rfl) St.drawn (fun _ h => h) ?_
      refine d_q rfl (q_move rfl rfl) rfl rfl ?_
      refine d_q rfl (q_move rfl rfl) rfl rfl ?_
      refine d_q rfl (q_indexV k rfl Try.underlying25 Try.sizeOf24 rfl (fun _ h => ha.keep h (by simp [dom])) rfl rfl (by omega)) rfl rfl ?_
      refine d_q rfl (q_loadVAgg k rfl Try.isAgg24 Try.sizeOf24 rfl rfl (fun _ h => ha.keep h (by simp [dom])) hx) rfl rfl ?_
      refine d_q rfl (q_move rfl rfl) rfl rfl ?_
      refine d_q rfl (q_move rfl rfl) rfl rfl ?_
      refine d_q rfl (q_indexV k rfl Try.underlying25 Try.sizeOf24 rfl (fun _ h => hb.keep h (by simp [dom])) rfl rfl (by omega)) rfl rfl ?_
      refine d_q rfl (q_loadVAgg k rfl Try.isAgg24 Try.sizeOf24 rfl rfl (fun _ h => hb.keep h (by simp [dom])) hy) rfl rfl ?_
      refine d_q rfl (q_neK (x) (y) rfl rfl rfl) rfl rfl ?_
      refine d_nil ?_
      refine k_then ?_
      refine Pre.caseB 25 rfl (fun hne => ?_) (fun hne => ?_)
      · try simp only [decide_eq_true_eq, decide_eq_false_iff_not, Bool.not_eq_true', Bool.not_eq_false'] at hne
        refine c_true rfl ?_
        refine c_seq ?_
        refine c_region _ rfl ?_
        refine l_q rfl (q_assign rfl rfl) rfl rfl ?_
        refine l_nil ?_
        refine k_then ?_
        refine c_ret ?_
        refine k_block_ret ?_
        refine k_then_ret ?_
        refine k_then_ret ?_
        refine k_block_ret ?_
        refine k_then_ret ?_
        refine r_one rfl rfl ?_
        exact fun _ h => ⟨(), congrArg (fun z => Ending.returned (Value.bool z)) (decide_eq_false (fun e => hne (by rw [e, hy] at hx; exact (Option.some.inj hx).symm))).symm, trivial, h⟩
      · try simp only [decide_eq_true_eq, decide_eq_false_iff_not, Bool.not_eq_true', Bool.not_eq_false'] at hne
        refine c_false rfl ?_
        refine c_skip ?_
        refine k_block ?_
        refine k_then ?_
        refine c_region _ rfl ?_
        refine l_q rfl (q_move rfl rfl) rfl rfl ?_
        refine l_q rfl (q_inc rfl rfl rfl (by omega)) rfl rfl ?_
        refine l_q rfl (q_assign rfl rfl) rfl rfl ?_
        refine l_nil ?_
        exact k_round (k + 1) (by omega) ⟨by omega, take_same ht hx hy hne⟩ (Sub.cons rfl (Sub.cons rfl (Sub.cons rfl (Sub.nil)))) (fun _ h => h)
    · try simp only [decide_eq_true_eq, decide_eq_false_iff_not, Bool.not_eq_true', Bool.not_eq_false'] at hlt
      refine c_false rfl ?_
      refine c_exit ?_
      refine k_then_exit ?_
      refine k_then_exit ?_
      refine k_block_exit ?_
      refine k_then ?_
      refine c_seq ?_
      refine c_region _ rfl ?_
      refine l_q rfl (q_assign rfl rfl) rfl rfl ?_
      refine l_nil ?_
      refine k_then ?_
      refine c_ret ?_
      refine r_one rfl rfl ?_
      exact fun _ h => ⟨(), congrArg (fun z => Ending.returned (Value.bool z)) (decide_eq_true (by rw [List.take_of_length_le (by omega), List.take_of_length_le (by omega)] at ht; exact ht)).symm, trivial, h⟩
set_option maxRecDepth 100000 in
set_option maxHeartbeats 1000000 in
theorem rkinds_spec {va : Value} (l : List (Kv 8)) (hn : l.length ≤ 65536) : Con Try.prog 18 [va] (fun w => RdV w va (Kv.enc 8) l) [] (fun _ : Unit => .int .i64 ((dd l).length : Int)) (fun _ => True) (fun _ => []) := by
  intro w hl hH
  refine enter (n := 34) (vs := [va]) (St w [] []) Try.func18 rfl rfl rfl (St.init hH) ?_
  refine c_seq ?_
  refine c_region _ rfl ?_
  refine l_q rfl (q_assign rfl rfl) rfl rfl ?_
  refine l_nil ?_
  refine k_then ?_
  refine c_seq ?_
  refine c_region _ rfl ?_
  refine l_q rfl (q_assign rfl rfl) rfl rfl ?_
  refine l_nil ?_
  refine k_then ?_
  refine c_seq ?_
  refine c_seq ?_
  refine c_region _ rfl ?_
  refine l_q rfl (q_assign rfl rfl) rfl rfl ?_
  refine l_nil ?_
  refine k_then ?_
  refine c_block ?_
  refine c_loop1 (fun (i : Nat) => [(0, va), (3, .int .i64 ((dd (l.take i)).length : Int)), (4, .int .i64 (i : Int))]) (fun (i : Nat) => St w [] []) (fun (i : Nat) => i ≤ l.length) (fun (i : Nat) => l.length - i) (0) (Nat.zero_le _) (Sub.cons rfl (Sub.cons rfl (Sub.cons rfl (Sub.nil)))) (fun _ h => h) ?_
  intro i hi
  refine c_seq ?_
  refine c_seq ?_
  have hol := dd_len (l.take i)
  have htl := List.length_take_le i l
  refine c_region _ rfl ?_
  refine l_q rfl (q_move rfl rfl) rfl rfl ?_
  refine l_q rfl (q_move rfl rfl) rfl rfl ?_
  refine l_q rfl (q_lenV rfl Try.underlying25 rfl (fun _ h => hl.keep h (by simp [dom]))) rfl rfl ?_
  refine l_q rfl (q_lss rfl rfl rfl) rfl rfl ?_
  refine l_nil ?_
  refine k_then ?_
  refine Pre.caseB 10 rfl (fun h1 => ?_) (fun h1 => ?_)
  · try simp only [decide_eq_true_eq, decide_eq_false_iff_not, Bool.not_eq_true', Bool.not_eq_false'] at h1
    obtain ⟨x, hx⟩ : ∃ x, l[i]? = some x := ⟨_, List.getElem?_eq_getElem (by omega)⟩
    have hdc := dd_count hx
    refine c_true rfl ?_
    refine c_skip ?_
    refine k_then ?_
    refine c_seq ?_
    refine c_block ?_
    refine c_seq ?_
    refine c_region _ rfl ?_
    refine l_q rfl (q_assign rfl rfl) rfl rfl ?_
    refine l_nil ?_
    refine k_then ?_
    refine c_seq ?_
    refine c_seq ?_
    refine c_region _ rfl ?_
    refine l_q rfl (q_assign rfl rfl) rfl rfl ?_
    refine l_nil ?_
    refine k_then ?_
    refine c_block ?_
    refine c_loop1 (fun (j : Nat) => [(0, va), (3, .int .i64 ((dd (l.take i)).length : Int)), (4, .int .i64 (i : Int)), (5, .bool (newK l j x)), (6, .int .i64 (j : Int))]) (fun (j : Nat) => St w [] []) (fun (j : Nat) => j ≤ i) (fun (j : Nat) => i - j) (0) (Nat.zero_le _) (Sub.cons rfl (Sub.cons rfl (Sub.cons rfl (Sub.consE rfl (by rw [new_zero]) (Sub.cons rfl Sub.nil))))) (fun _ h => h) ?_
    intro j hj
    refine c_seq ?_
    refine c_seq ?_
    refine c_region _ rfl ?_
    refine l_q rfl (q_move rfl rfl) rfl rfl ?_
    refine l_q rfl (q_move rfl rfl) rfl rfl ?_
    refine l_q rfl (q_lss rfl rfl rfl) rfl rfl ?_
    refine l_nil ?_
    refine k_then ?_
    refine Pre.caseB 15 rfl (fun h2 => ?_) (fun h2 => ?_)
    · try simp only [decide_eq_true_eq, decide_eq_false_iff_not, Bool.not_eq_true', Bool.not_eq_false'] at h2
      obtain ⟨y, hy⟩ : ∃ y, l[j]? = some y := ⟨_, List.getElem?_eq_getElem (by omega)⟩
      have hns := new_succ (x := x) hy
      refine c_true rfl ?_
      refine c_skip ?_
      refine k_then ?_
      refine c_seq ?_
      refine c_block ?_
      refine c_draw [(0, some true), (1, some true), (2, some true), (3, some true), (4, some true), (5, some true), (6, some true), (7, some true), (8, some true), (9, some true), (10, some true), (11, some true), (12, some true)] [] [(_, some true), (_, some true), (_, some true), (_, some true), (_, some true), (_, some true), (_, some true), (_, some true), (_, some true), (_, some true), (_, some true), (_, some true), (_, some true)] _ (blind_block (blind_then (blind_then (blind_block (blind_then (blind_block (blind_then (blind_then (blind_block (blind_then blind_body)))))))))) rfl (by kernel_rfl) (by kernel_rfl) rfl rfl rfl (by kernel_rfl) St.drawn (fun _ h => h) ?_
      refine d_q rfl (q_move rfl rfl) rfl rfl ?_
      refine d_q rfl (q_move rfl rfl) rfl rfl ?_
      refine Pre.caseB 19 rfl (fun h3 => ?_) (fun h3 => ?_)
      · rw [h3] at hns
        refine d_q rfl (q_move rfl rfl) rfl rfl ?_
        refine d_q rfl (q_move rfl rfl) rfl rfl ?_
        refine d_q rfl (q_indexV j rfl Try.underlying25 Try.sizeOf24 rfl (fun _ h => hl.keep h (by simp [dom])) rfl rfl (by omega)) rfl rfl ?_
        refine d_q rfl (q_loadVAgg j rfl Try.isAgg24 Try.sizeOf24 rfl rfl (fun _ h => hl.keep h (by simp [dom])) hy) rfl rfl ?_
        refine d_q rfl (q_move rfl rfl) rfl rfl ?_
        refine d_q rfl (q_move rfl rfl) rfl rfl ?_
        refine d_q rfl (q_indexV i rfl Try.underlying25 Try.sizeOf24 rfl (fun _ h => hl.keep h (by simp [dom])) rfl rfl (by omega)) rfl rfl ?_
        refine d_q rfl (q_loadVAgg i rfl Try.isAgg24 Try.sizeOf24 rfl rfl (fun _ h => hl.keep h (by simp [dom])) hx) rfl rfl ?_
        refine d_q rfl (q_neK (y) (x) rfl rfl rfl) rfl rfl ?_
        refine d_q rfl (q_pick_t rfl rfl rfl) rfl rfl ?_
        refine d_q rfl (q_assign rfl rfl) rfl rfl ?_
        refine d_nil ?_
        refine k_block ?_
        refine k_then ?_
        refine c_region _ rfl ?_
        refine l_q rfl (q_move rfl rfl) rfl rfl ?_
        refine l_q rfl (q_inc rfl rfl rfl (by omega)) rfl rfl ?_
        refine l_q rfl (q_assign rfl rfl) rfl rfl ?_
        refine l_nil ?_
        exact k_round (j + 1) (by omega) (by omega) (Sub.cons rfl (Sub.cons rfl (Sub.cons rfl (Sub.consE rfl (by rw [hns]; simp) (Sub.cons rfl Sub.nil))))) (fun _ h => h)
      · rw [h3] at hns
        refine d_not rfl rfl rfl ?_
        refine d_not rfl rfl rfl ?_
        refine d_not rfl rfl rfl ?_
        refine d_not rfl rfl rfl ?_
        refine d_not rfl rfl rfl ?_
        refine d_not rfl rfl rfl ?_
        refine d_not rfl rfl rfl ?_
        refine d_not rfl rfl rfl ?_
        refine d_not rfl rfl rfl ?_
        refine d_q rfl (q_pick_f rfl rfl rfl) rfl rfl ?_
        refine d_q rfl (q_assign rfl rfl) rfl rfl ?_
        refine d_nil ?_
        refine k_block ?_
        refine k_then ?_
        refine c_region _ rfl ?_
        refine l_q rfl (q_move rfl rfl) rfl rfl ?_
        refine l_q rfl (q_inc rfl rfl rfl (by omega)) rfl rfl ?_
        refine l_q rfl (q_assign rfl rfl) rfl rfl ?_
        refine l_nil ?_
        exact k_round (j + 1) (by omega) (by omega) (Sub.cons rfl (Sub.cons rfl (Sub.cons rfl (Sub.consE rfl (by rw [hns]; simp) (Sub.cons rfl Sub.nil))))) (fun _ h => h)
    · try simp only [decide_eq_true_eq, decide_eq_false_iff_not, Bool.not_eq_true', Bool.not_eq_false'] at h2
      have hji : j = i := by omega
      subst hji
      refine c_false rfl ?_
      refine c_exit ?_
      refine k_then_exit ?_
      refine k_then_exit ?_
      refine k_block_exit ?_
      refine k_then ?_
      refine c_seq ?_
      refine c_region _ rfl ?_
      refine l_q rfl (q_move rfl rfl) rfl rfl ?_
      refine l_nil ?_
      refine k_then ?_
      refine Pre.caseB 30 rfl (fun h4 => ?_) (fun h4 => ?_)
      · rw [h4] at hdc
        refine c_true rfl ?_
        refine c_region _ rfl ?_
        refine l_q rfl (q_move rfl rfl) rfl rfl ?_
        refine l_q rfl (q_inc rfl rfl rfl (by omega)) rfl rfl ?_
        refine l_q rfl (q_assign rfl rfl) rfl rfl ?_
        refine l_nil ?_
        refine k_block ?_
        refine k_then ?_
        refine c_region _ rfl ?_
        refine l_q rfl (q_move rfl rfl) rfl rfl ?_
        refine l_q rfl (q_inc rfl rfl rfl (by omega)) rfl rfl ?_
        refine l_q rfl (q_assign rfl rfl) rfl rfl ?_
        refine l_nil ?_
        exact k_round (j + 1) (by omega) (by omega) (Sub.cons rfl (Sub.consE rfl (by rw [hdc]; simp) (Sub.cons rfl Sub.nil))) (fun _ h => h)
      · rw [h4] at hdc
        refine c_false rfl ?_
        refine c_skip ?_
        refine k_block ?_
        refine k_then ?_
        refine c_region _ rfl ?_
        refine l_q rfl (q_move rfl rfl) rfl rfl ?_
        refine l_q rfl (q_inc rfl rfl rfl (by omega)) rfl rfl ?_
        refine l_q rfl (q_assign rfl rfl) rfl rfl ?_
        refine l_nil ?_
        exact k_round (j + 1) (by omega) (by omega) (Sub.cons rfl (Sub.consE rfl (by rw [hdc]; simp) (Sub.cons rfl Sub.nil))) (fun _ h => h)
  · try simp only [decide_eq_true_eq, decide_eq_false_iff_not, Bool.not_eq_true', Bool.not_eq_false'] at h1
    have hie : i = l.length := by omega
    subst hie
    rw [List.take_length]
    refine c_false rfl ?_
    refine c_exit ?_
    refine k_then_exit ?_
    refine k_then_exit ?_
    refine k_block_exit ?_
    refine k_then ?_
    refine c_seq ?_
    refine c_region _ rfl ?_
    refine l_q rfl (q_move rfl rfl) rfl rfl ?_
    refine l_q rfl (q_assign rfl rfl) rfl rfl ?_
    refine l_nil ?_
    refine k_then ?_
    refine c_ret ?_
    refine r_one rfl rfl ?_
    exact fun _ h => ⟨(), rfl, trivial, h⟩
set_option maxRecDepth 100000 in
set_option maxHeartbeats 1000000 in
theorem rorder_spec {va : Value} (l : List (Kv 8)) (hn : l.length ≤ 60000) : Con Try.prog 21 [va] (fun w => RdV w va (Kv.enc 8) l) [] (fun v : Value => v) (fun _ => True) (fun v => [rowE v 24 (Kv.enc 8) (oi l)]) := by
  intro w hl hH
  refine enter (n := 69) (vs := [va]) (St w [] []) Try.func21 rfl rfl rfl (St.init hH) ?_
  refine c_seq ?_
  refine c_region _ rfl ?_
  refine l_q rfl (q_assign rfl rfl) rfl rfl ?_
  refine l_nil ?_
  refine k_then ?_
  refine c_seq ?_
  refine c_region _ rfl ?_
  refine l_q rfl (q_assign rfl rfl) rfl rfl ?_
  refine l_nil ?_
  refine k_then ?_
  refine c_seq ?_
  refine c_seq ?_
  refine c_region _ rfl ?_
  refine l_q rfl (q_assign rfl rfl) rfl rfl ?_
  refine l_nil ?_
  refine k_then ?_
  refine c_block ?_
  refine row0 24 (Kv.enc 8) none ?_
  refine c_loop2 (fun (i : Nat) (v : Value) => [(0, va), (3, v), (4, .int .i64 (i : Int))]) (fun (i : Nat) (v : Value) => St w [] [rowE v 24 (Kv.enc 8) (oi (l.take i))]) (fun (i : Nat) (v : Value) => i ≤ l.length) (fun (i : Nat) (v : Value) => l.length - i) (0) (.slice none 0 0) (Nat.zero_le _) (Sub.cons rfl (Sub.cons rfl (Sub.cons rfl (Sub.nil)))) (fun _ h => h) ?_
  intro i v hi
  refine c_seq ?_
  refine c_seq ?_
  have hol := oi_len (l := l.take i)
  have htl := List.length_take_le i l
  refine c_region _ rfl ?_
  refine l_q rfl (q_move rfl rfl) rfl rfl ?_
  refine l_q rfl (q_move rfl rfl) rfl rfl ?_
  refine l_q rfl (q_lenV rfl Try.underlying25 rfl (fun _ h => hl.keep h (by simp [dom]))) rfl rfl ?_
  refine l_q rfl (q_lss rfl rfl rfl) rfl rfl ?_
  refine l_nil ?_
  refine k_then ?_
  refine Pre.caseB 10 rfl (fun h1 => ?_) (fun h1 => ?_)
  · try simp only [decide_eq_true_eq, decide_eq_false_iff_not, Bool.not_eq_true', Bool.not_eq_false'] at h1
    obtain ⟨x, hx⟩ : ∃ x, l[i]? = some x := ⟨_, List.getElem?_eq_getElem (by omega)⟩
    have hos : oi (l.take (i + 1)) = if kck x = true then insK x (oi (l.take i)) else oi (l.take i) := by rw [List.take_add_one, hx]; exact oi_snoc _ _
    refine c_true rfl ?_
    refine c_skip ?_
    refine k_then ?_
    refine c_seq ?_
    refine c_block ?_
    refine c_seq ?_
    refine c_seq ?_
    refine c_region _ rfl ?_
    refine l_q rfl (q_move rfl rfl) rfl rfl ?_
    refine l_q rfl (q_move rfl rfl) rfl rfl ?_
    refine l_q rfl (q_indexV i rfl Try.underlying25 Try.sizeOf24 rfl (fun _ h => hl.keep h (by simp [dom])) rfl rfl (by omega)) rfl rfl ?_
    refine l_q rfl (q_loadVAgg i rfl Try.isAgg24 Try.sizeOf24 rfl rfl (fun _ h => hl.keep h (by simp [dom])) hx) rfl rfl ?_
    refine l_e rfl ?_
    refine e_call_00 (rkcheck_spec x) rfl rfl rfl Try.call14 rfl (fun _ _ => trivial) ?_
    intro _ _
    refine l_q rfl (q_not rfl rfl) rfl rfl ?_
    refine l_nil ?_
    refine k_then ?_
    refine Pre.caseB 18 rfl (fun hk => ?_) (fun hk => ?_)
    · try simp only [Bool.not_eq_true', Bool.not_eq_false'] at hk
      have hon : oi (l.take (i + 1)) = oi (l.take i) := by rw [hos, if_neg (by rw [hk]; decide)]
      refine c_true rfl ?_
      refine c_exit ?_
      refine k_then_exit ?_
      refine k_block_exit ?_
      refine k_then ?_
      refine c_region _ rfl ?_
      refine l_q rfl (q_move rfl rfl) rfl rfl ?_
      refine l_q rfl (q_inc rfl rfl rfl (by omega)) rfl rfl ?_
      refine l_q rfl (q_assign rfl rfl) rfl rfl ?_
      refine l_nil ?_
      exact k_round ((i + 1, v)) (by dsimp only; omega) (by dsimp only; omega) (Sub.cons rfl (Sub.cons rfl (Sub.cons rfl (Sub.nil)))) (fun _ h => by dsimp only; rw [hon]; exact h)
    · try simp only [Bool.not_eq_true', Bool.not_eq_false'] at hk
      rw [if_pos hk] at hos
      refine c_false rfl ?_
      refine c_skip ?_
      refine k_then ?_
      refine c_seq ?_
      refine c_region _ rfl ?_
      refine l_q rfl (q_assign rfl rfl) rfl rfl ?_
      refine l_nil ?_
      refine k_then ?_
      refine c_seq ?_
      refine c_block ?_
      refine c_loop1 (fun (p : Nat) => [(0, va), (3, v), (4, .int .i64 (i : Int)), (5, .int .i64 (p : Int))]) (fun (p : Nat) => St w [] [rowE v 24 (Kv.enc 8) (oi (l.take i))]) (fun (p : Nat) => p ≤ (oi (l.take i)).length ∧ ∀ j y, j < p → (oi (l.take i))[j]? = some y → kcmp y x < 0) (fun (p : Nat) => (oi (l.take i)).length - p) (0) ⟨Nat.zero_le _, fun j y h => absurd h (Nat.not_lt_zero _)⟩ (Sub.cons rfl (Sub.cons rfl (Sub.cons rfl (Sub.cons rfl (Sub.nil))))) (fun _ h => h) ?_
      intro p hp
      refine c_seq ?_
      refine c_seq ?_
      obtain ⟨hp1, hp2⟩ := hp
      refine c_draw [(0, some true), (1, some true), (2, some true), (3, some true), (4, some true), (5, some true), (6, some true), (7, some true), (8, some true), (9, some true), (10, some true), (11, some true), (12, some true), (13, some false), (14, some true), (15, some true)] [] [(_, some true), (_, some true), (_, some true), (_, some true), (_, some true), (_, some true), (_, some true), (_, some true), (_, some true), (_, some true), (_, some true), (_, some true), (_, some true), (_, some false), (_, some true), (_, some true)] _ (blind_then (blind_then (blind_then (blind_block (blind_then (blind_block (blind_then (blind_then (blind_block (blind_then blind_body)))))))))) rfl (by kernel_rfl) (by kernel_rfl) rfl rfl rfl (by kernel_rfl) St.drawn (fun _ h => h) ?_
      refine d_q rfl (q_move rfl rfl) rfl rfl ?_
      refine d_q rfl (q_move rfl rfl) rfl rfl ?_
      refine d_q rfl (q_lenV rfl Try.underlying25 rfl (fun _ h => h.rd 0 rfl)) rfl rfl ?_
      refine d_q rfl (q_lss rfl rfl rfl) rfl rfl ?_
      refine d_q rfl (q_move rfl rfl) rfl rfl ?_
      refine Pre.caseB 23 rfl (fun h2 => ?_) (fun h2 => ?_)
      · try simp only [decide_eq_true_eq, decide_eq_false_iff_not, Bool.not_eq_true', Bool.not_eq_false'] at h2
        obtain ⟨y, hy⟩ : ∃ y, (oi (l.take i))[p]? = some y := ⟨_, List.getElem?_eq_getElem (by omega)⟩
        have hky : kck y = true := (oi_mem.1 (List.mem_of_getElem? hy)).2
        refine d_q rfl (q_move rfl rfl) rfl rfl ?_
        refine d_q rfl (q_move rfl rfl) rfl rfl ?_
        refine d_q rfl (q_indexV p rfl Try.underlying25 Try.sizeOf24 rfl (fun _ h => h.rd 0 rfl) rfl rfl (by omega)) rfl rfl ?_
        refine d_q rfl (q_loadVAgg p rfl Try.isAgg24 Try.sizeOf24 rfl rfl (fun _ h => h.rd 0 rfl) hy) rfl rfl ?_
        refine d_q rfl (q_move rfl rfl) rfl rfl ?_
        refine d_q rfl (q_move rfl rfl) rfl rfl ?_
        refine d_q rfl (q_indexV i rfl Try.underlying25 Try.sizeOf24 rfl (fun _ h => hl.keep h (by simp [dom])) rfl rfl (by omega)) rfl rfl ?_
        refine d_q rfl (q_loadVAgg i rfl Try.isAgg24 Try.sizeOf24 rfl rfl (fun _ h => hl.keep h (by simp [dom])) hx) rfl rfl ?_
        refine d_e rfl ?_
        refine e_call_00 (rcmp_spec y x hky hk) rfl rfl rfl Try.call25 rfl (fun _ _ => trivial) ?_
        intro _ _
        refine d_held (fun _ h => h) ?_
        refine d_q rfl (q_lss rfl rfl rfl) rfl rfl ?_
        refine d_q rfl (q_pick_t rfl rfl rfl) rfl rfl ?_
        refine d_nil ?_
        refine k_then ?_
        refine Pre.caseB 34 rfl (fun h3 => ?_) (fun h3 => ?_)
        · try simp only [decide_eq_true_eq, decide_eq_false_iff_not, Bool.not_eq_true', Bool.not_eq_false'] at h3
          refine c_true rfl ?_
          refine c_skip ?_
          refine k_then ?_
          refine c_block ?_
          refine c_region _ rfl ?_
          refine l_q rfl (q_move rfl rfl) rfl rfl ?_
          refine l_q rfl (q_inc rfl rfl rfl (by omega)) rfl rfl ?_
          refine l_q rfl (q_assign rfl rfl) rfl rfl ?_
          refine l_nil ?_
          refine k_block ?_
          exact k_round (p + 1) (by omega) ⟨by omega, fun j z hj hz => by
              rcases Nat.lt_succ_iff_lt_or_eq.1 hj with h4 | rfl
              · exact hp2 j z h4 hz
              · rw [hy] at hz; cases hz; exact h3⟩ (Sub.cons rfl (Sub.cons rfl (Sub.cons rfl (Sub.cons rfl (Sub.nil))))) (fun _ h => h)
        · try simp only [decide_eq_true_eq, decide_eq_false_iff_not, Bool.not_eq_true', Bool.not_eq_false'] at h3
          have hge : ¬ kcmp y x < 0 := by omega
          have hat := insK_at (a := x) hp1 hp2 (fun z hz => (by rw [hy] at hz; cases hz; exact hge))
          refine c_false rfl ?_
          refine c_exit ?_
          refine k_then_exit ?_
          refine k_then_exit ?_
          refine k_block_exit ?_
          refine k_then ?_
          refine c_seq ?_
          refine c_seq ?_
          refine c_draw [(0, some true), (1, some true), (2, some true), (3, some true), (4, some true), (5, some true), (6, some true), (7, some true), (8, some true), (9, some true), (10, some true), (11, some true), (12, some true), (13, some true), (14, some true)] [] [(_, some true), (_, some true), (_, some true), (_, some true), (_, some true), (_, some true), (_, some true), (_, some true), (_, some true), (_, some true), (_, some true), (_, some true), (_, some true), (_, some true), (_, some true)] _ (blind_then (blind_then (blind_block (blind_then (blind_then (blind_block (blind_then blind_body))))))) rfl (by kernel_rfl) (by kernel_rfl) rfl rfl rfl (by kernel_rfl) St.drawn (fun _ h => h) ?_
          refine d_q rfl (q_move rfl rfl) rfl rfl ?_
          refine d_q rfl (q_move rfl rfl) rfl rfl ?_
          refine d_q rfl (q_lenV rfl Try.underlying25 rfl (fun _ h => h.rd 0 rfl)) rfl rfl ?_
          refine d_q rfl (q_lss rfl rfl rfl) rfl rfl ?_
          refine d_q rfl (q_move rfl rfl) rfl rfl ?_
          refine Pre.setB (t := 41) (c := true) rfl (decide_eq_true (by omega)) ?_
          refine d_q rfl (q_move rfl rfl) rfl rfl ?_
          refine d_q rfl (q_move rfl rfl) rfl rfl ?_
          refine d_q rfl (q_indexV p rfl Try.underlying25 Try.sizeOf24 rfl (fun _ h => h.rd 0 rfl) rfl rfl (by omega)) rfl rfl ?_
          refine d_q rfl (q_loadVAgg p rfl Try.isAgg24 Try.sizeOf24 rfl rfl (fun _ h => h.rd 0 rfl) hy) rfl rfl ?_
          refine d_q rfl (q_move rfl rfl) rfl rfl ?_
          refine d_q rfl (q_move rfl rfl) rfl rfl ?_
          refine d_q rfl (q_indexV i rfl Try.underlying25 Try.sizeOf24 rfl (fun _ h => hl.keep h (by simp [dom])) rfl rfl (by omega)) rfl rfl ?_
          refine d_q rfl (q_loadVAgg i rfl Try.isAgg24 Try.sizeOf24 rfl rfl (fun _ h => hl.keep h (by simp [dom])) hx) rfl rfl ?_
          refine d_q rfl (q_eqK (y) (x) rfl rfl rfl) rfl rfl ?_
          refine d_q rfl (q_pick_t rfl rfl rfl) rfl rfl ?_
          refine d_nil ?_
          refine k_then ?_
          refine Pre.caseB 51 rfl (fun h4 => ?_) (fun h4 => ?_)
          · try simp only [decide_eq_true_eq, decide_eq_false_iff_not, Bool.not_eq_true', Bool.not_eq_false'] at h4
            have hin : insK x (oi (l.take i)) = oi (l.take i) := hat.trans (if_pos (by rw [hy, h4]))
            have hon : oi (l.take (i + 1)) = oi (l.take i) := hos.trans hin
            refine c_true rfl ?_
            refine c_exit ?_
            refine k_then_exit ?_
            refine k_block_exit ?_
            refine k_then ?_
            refine c_region _ rfl ?_
            refine l_q rfl (q_move rfl rfl) rfl rfl ?_
            refine l_q rfl (q_inc rfl rfl rfl (by omega)) rfl rfl ?_
            refine l_q rfl (q_assign rfl rfl) rfl rfl ?_
            refine l_nil ?_
            exact k_round ((i + 1, v)) (by dsimp only; omega) (by dsimp only; omega) (Sub.cons rfl (Sub.cons rfl (Sub.cons rfl (Sub.nil)))) (fun _ h => by dsimp only; rw [hon]; exact h)
          · try simp only [decide_eq_true_eq, decide_eq_false_iff_not, Bool.not_eq_true', Bool.not_eq_false'] at h4
            have hne : ¬ (oi (l.take i))[p]? = some x := fun e => h4 (by rw [hy] at e; exact Option.some.inj e)
            have hins : insK x (oi (l.take i)) = (oi (l.take i)).take p ++ [x] ++ (oi (l.take i)).drop p := hat.trans (if_neg hne)
            refine row0 24 (Kv.enc 8) none ?_
            refine c_false rfl ?_
            refine c_skip ?_
            refine k_then ?_
            refine c_seq ?_
            refine c_region _ rfl ?_
            refine l_q rfl (q_assign rfl rfl) rfl rfl ?_
            refine l_nil ?_
            refine k_then ?_
            refine c_seq ?_
            refine c_any (fun w2 => RdV w2 v (Kv.enc 8) (oi (l.take i)) ∧ RdV w2 va (Kv.enc 8) l) rfl St.drawn ?_
            refine a_q (blind_then (blind_block (blind_then (blind_then (blind_block (blind_then blind_body)))))) 0 rfl (by kernel_rfl) (by kernel_rfl) (by kernel_rfl) (fun _ h => ⟨h.rd 1 rfl, hl.keep h (by simp [dom])⟩) rfl (q_move rfl rfl) rfl rfl ?_
            refine a_q (blind_then (blind_block (blind_then (blind_then (blind_block (blind_then blind_body)))))) 1 rfl (by kernel_rfl) (by kernel_rfl) (by kernel_rfl) (fun _ h => ⟨h.rd 1 rfl, hl.keep h (by simp [dom])⟩) rfl (q_move rfl rfl) rfl rfl ?_
            refine a_q (blind_then (blind_block (blind_then (blind_then (blind_block (blind_then blind_body)))))) 2 rfl (by kernel_rfl) (by kernel_rfl) (by kernel_rfl) (fun _ h => ⟨h.rd 1 rfl, hl.keep h (by simp [dom])⟩) rfl (q_move rfl rfl) rfl rfl ?_
            refine a_q (blind_then (blind_block (blind_then (blind_then (blind_block (blind_then blind_body)))))) 3 rfl (by kernel_rfl) (by kernel_rfl) (by kernel_rfl) (fun _ h => ⟨h.rd 1 rfl, hl.keep h (by simp [dom])⟩) rfl (q_sliceVH p rfl Try.underlying25 Try.sizeOf24 rfl (fun _ h => h.1) rfl rfl (by omega)) rfl rfl ?_
            refine a_q (blind_then (blind_block (blind_then (blind_then (blind_block (blind_then blind_body)))))) 5 rfl (by kernel_rfl) (by kernel_rfl) (by kernel_rfl) (fun _ h => ⟨h.rd 1 rfl, hl.keep h (by simp [dom])⟩) rfl (q_move rfl rfl) rfl rfl ?_
            refine a_q (blind_then (blind_block (blind_then (blind_then (blind_block (blind_then blind_body)))))) 6 rfl (by kernel_rfl) (by kernel_rfl) (by kernel_rfl) (fun _ h => ⟨h.rd 1 rfl, hl.keep h (by simp [dom])⟩) rfl (q_move rfl rfl) rfl rfl ?_
            refine a_q (blind_then (blind_block (blind_then (blind_then (blind_block (blind_then blind_body)))))) 7 rfl (by kernel_rfl) (by kernel_rfl) (by kernel_rfl) (fun _ h => ⟨h.rd 1 rfl, hl.keep h (by simp [dom])⟩) rfl (q_indexV i rfl Try.underlying25 Try.sizeOf24 rfl (fun _ h => h.2) rfl rfl (by omega)) rfl rfl ?_
            refine a_q (blind_then (blind_block (blind_then (blind_then (blind_block (blind_then blind_body)))))) 8 rfl (by kernel_rfl) (by kernel_rfl) (by kernel_rfl) (fun _ h => ⟨h.rd 1 rfl, hl.keep h (by simp [dom])⟩) rfl (q_loadVAgg i rfl Try.isAgg24 Try.sizeOf24 rfl rfl (fun _ h => h.2) hx) rfl rfl ?_
            refine a_q (blind_then (blind_block (blind_then (blind_then (blind_block (blind_then blind_body)))))) 11 rfl (by kernel_rfl) (by kernel_rfl) (by kernel_rfl) (fun _ h => ⟨h.rd 1 rfl, hl.keep h (by simp [dom])⟩) rfl (q_move rfl rfl) rfl rfl ?_
            refine a_q (blind_then (blind_block (blind_then (blind_then (blind_block (blind_then blind_body)))))) 12 rfl (by kernel_rfl) (by kernel_rfl) (by kernel_rfl) (fun _ h => ⟨h.rd 1 rfl, hl.keep h (by simp [dom])⟩) rfl (q_move rfl rfl) rfl rfl ?_
            refine a_q (blind_then (blind_block (blind_then (blind_then (blind_block (blind_then blind_body)))))) 13 rfl (by kernel_rfl) (by kernel_rfl) (by kernel_rfl) (fun _ h => ⟨h.rd 1 rfl, hl.keep h (by simp [dom])⟩) rfl (q_sliceVL p rfl Try.underlying25 Try.sizeOf24 rfl (fun _ h => h.1) rfl rfl (by omega)) rfl rfl ?_
            refine a_all2 4 9 (by kernel_rfl) rfl rfl rfl rfl ?_ ?_ 
            · refine e_append rfl rfl rfl Try.underlying25 Try.underlying25 info24 rfl rfl rfl rfl rfl (fun _ h => vsl_rd (h.rd 1 rfl) (lo := 0) (hi := p) (Nat.zero_le _) hp1) (by simp only [byt24, List.length_append, List.length_cons, List.length_nil, List.length_drop, List.length_take]; omega) (by simp only [List.length_append, List.length_cons, List.length_nil, List.length_drop, List.length_take]; omega) ?_
              intro v3
              refine d_held (fun _ h => ⟨h.rd 1 rfl, hl.keep h (by simp [dom])⟩) ?_
              refine a_all1 9 (by kernel_rfl) rfl rfl ?_
              refine e_buildSliceV (sz := 9) [.tmp 60] rfl rfl rfl rfl rfl Try.underlying25 Try.sizeOf24 rfl Try.zeroValue24 (by simp [Value.cells, Kv.enc, Kv.c_len]) ?_
              intro b4
              refine d_held (fun _ h => ⟨h.rd 2 rfl, hl.keep h (by simp [dom])⟩) ?_
              refine pull1 ?_
              refine a_all1 10 (by kernel_rfl) rfl rfl ?_
              refine e_append rfl rfl rfl Try.underlying25 Try.underlying25 info24 rfl rfl rfl rfl rfl (fun _ h => lit_rd (h.at 1 rfl) (Kv.enc 8) [x] (by simp [cellsOf, Enc.flat, Kv.enc, Value.cells]) rfl) (by simp only [byt24, List.length_append, List.length_cons, List.length_nil, List.length_drop, List.length_take]; omega) (by simp only [List.length_append, List.length_cons, List.length_nil, List.length_drop, List.length_take]; omega) ?_
              intro v5
              refine d_held (fun _ h => ⟨h.rd 2 rfl, hl.keep h (by simp [dom])⟩) ?_
              refine a_all1 14 (by kernel_rfl) rfl rfl ?_
              refine e_append rfl rfl rfl Try.underlying25 Try.underlying25 info24 rfl rfl rfl rfl rfl (fun _ h => vsl_rd (h.rd 2 rfl) (lo := p) (hi := (oi (l.take i)).length) hp1 (Nat.le_refl _)) (by simp only [byt24, List.length_append, List.length_cons, List.length_nil, List.length_drop, List.length_take]; omega) (by simp only [List.length_append, List.length_cons, List.length_nil, List.length_drop, List.length_take]; omega) ?_
              intro v6
              refine d_held (fun _ h => ⟨h.rd 2 rfl, hl.keep h (by simp [dom])⟩) ?_
              refine a_q (blind_then (blind_block (blind_then (blind_then (blind_block (blind_then blind_body)))))) 15 rfl (by kernel_rfl) (by kernel_rfl) (by kernel_rfl) (fun _ h => ⟨h.rd 2 rfl, hl.keep h (by simp [dom])⟩) rfl (q_assign rfl rfl) rfl rfl ?_
              refine a_nil (by kernel_rfl) ?_
              refine k_then ?_
              refine c_region _ rfl ?_
              refine l_q rfl (q_move rfl rfl) rfl rfl ?_
              refine l_q rfl (q_assign rfl rfl) rfl rfl ?_
              refine l_nil ?_
              refine k_block ?_
              refine k_then ?_
              refine c_region _ rfl ?_
              refine l_q rfl (q_move rfl rfl) rfl rfl ?_
              refine l_q rfl (q_inc rfl rfl rfl (by omega)) rfl rfl ?_
              refine l_q rfl (q_assign rfl rfl) rfl rfl ?_
              refine l_nil ?_
              refine row_eq (l' := oi (l.take (i + 1))) (by rw [hos, hins]; simp) ?_
              refine pull2 ?_
              refine drop0 ?_
              refine pull1 ?_
              refine drop0 ?_
              exact k_round ((i + 1, v6)) (by dsimp only; omega) (by dsimp only; omega) (Sub.cons rfl (Sub.cons rfl (Sub.cons rfl (Sub.nil)))) (fun _ h => h)
            · refine e_buildSliceV (sz := 9) [.tmp 60] rfl rfl rfl rfl rfl Try.underlying25 Try.sizeOf24 rfl Try.zeroValue24 (by simp [Value.cells, Kv.enc, Kv.c_len]) ?_
              intro b7
              refine d_held (fun _ h => ⟨h.rd 2 rfl, hl.keep h (by simp [dom])⟩) ?_
              refine pull1 ?_
              refine a_all1 4 (by kernel_rfl) rfl rfl ?_
              refine e_append rfl rfl rfl Try.underlying25 Try.underlying25 info24 rfl rfl rfl rfl rfl (fun _ h => vsl_rd (h.rd 2 rfl) (lo := 0) (hi := p) (Nat.zero_le _) hp1) (by simp only [byt24, List.length_append, List.length_cons, List.length_nil, List.length_drop, List.length_take]; omega) (by simp only [List.length_append, List.length_cons, List.length_nil, List.length_drop, List.length_take]; omega) ?_
              intro v8
              refine d_held (fun _ h => ⟨h.rd 2 rfl, hl.keep h (by simp [dom])⟩) ?_
              refine a_all1 10 (by kernel_rfl) rfl rfl ?_
              refine e_append rfl rfl rfl Try.underlying25 Try.underlying25 info24 rfl rfl rfl rfl rfl (fun _ h => lit_rd (h.at 1 rfl) (Kv.enc 8) [x] (by simp [cellsOf, Enc.flat, Kv.enc, Value.cells]) rfl) (by simp only [byt24, List.length_append, List.length_cons, List.length_nil, List.length_drop, List.length_take]; omega) (by simp only [List.length_append, List.length_cons, List.length_nil, List.length_drop, List.length_take]; omega) ?_
              intro v9
              refine d_held (fun _ h => ⟨h.rd 2 rfl, hl.keep h (by simp [dom])⟩) ?_
              refine a_all1 14 (by kernel_rfl) rfl rfl ?_
              refine e_append rfl rfl rfl Try.underlying25 Try.underlying25 info24 rfl rfl rfl rfl rfl (fun _ h => vsl_rd (h.rd 2 rfl) (lo := p) (hi := (oi (l.take i)).length) hp1 (Nat.le_refl _)) (by simp only [byt24, List.length_append, List.length_cons, List.length_nil, List.length_drop, List.length_take]; omega) (by simp only [List.length_append, List.length_cons, List.length_nil, List.length_drop, List.length_take]; omega) ?_
              intro v10
              refine d_held (fun _ h => ⟨h.rd 2 rfl, hl.keep h (by simp [dom])⟩) ?_
              refine a_q (blind_then (blind_block (blind_then (blind_then (blind_block (blind_then blind_body)))))) 15 rfl (by kernel_rfl) (by kernel_rfl) (by kernel_rfl) (fun _ h => ⟨h.rd 2 rfl, hl.keep h (by simp [dom])⟩) rfl (q_assign rfl rfl) rfl rfl ?_
              refine a_nil (by kernel_rfl) ?_
              refine k_then ?_
              refine c_region _ rfl ?_
              refine l_q rfl (q_move rfl rfl) rfl rfl ?_
              refine l_q rfl (q_assign rfl rfl) rfl rfl ?_
              refine l_nil ?_
              refine k_block ?_
              refine k_then ?_
              refine c_region _ rfl ?_
              refine l_q rfl (q_move rfl rfl) rfl rfl ?_
              refine l_q rfl (q_inc rfl rfl rfl (by omega)) rfl rfl ?_
              refine l_q rfl (q_assign rfl rfl) rfl rfl ?_
              refine l_nil ?_
              refine row_eq (l' := oi (l.take (i + 1))) (by rw [hos, hins]; simp) ?_
              refine pull2 ?_
              refine drop0 ?_
              refine pull1 ?_
              refine drop0 ?_
              exact k_round ((i + 1, v10)) (by dsimp only; omega) (by dsimp only; omega) (Sub.cons rfl (Sub.cons rfl (Sub.cons rfl (Sub.nil)))) (fun _ h => h)
      · try simp only [decide_eq_true_eq, decide_eq_false_iff_not, Bool.not_eq_true', Bool.not_eq_false'] at h2
        have hpe : p = (oi (l.take i)).length := by omega
        have hno : (oi (l.take i))[p]? = none := List.getElem?_eq_none (by omega)
        have hat := insK_at (a := x) hp1 hp2 (fun z hz => (by rw [hno] at hz; cases hz))
        refine d_not rfl rfl rfl ?_
        refine d_not rfl rfl rfl ?_
        refine d_not rfl rfl rfl ?_
        refine d_not rfl rfl rfl ?_
        refine d_not rfl rfl rfl ?_
        refine d_not rfl rfl rfl ?_
        refine d_not rfl rfl rfl ?_
        refine d_not rfl rfl rfl ?_
        refine d_not rfl rfl rfl ?_
        refine d_not rfl rfl rfl ?_
        refine d_q rfl (q_pick_f rfl rfl rfl) rfl rfl ?_
        refine d_nil ?_
        refine k_then ?_
        refine c_false rfl ?_
        refine c_exit ?_
        refine k_then_exit ?_
        refine k_then_exit ?_
        refine k_block_exit ?_
        refine k_then ?_
        refine c_seq ?_
        refine c_seq ?_
        refine c_draw [(0, some true), (1, some true), (2, some true), (3, some true), (4, some true), (5, some true), (6, some true), (7, some true), (8, some true), (9, some true), (10, some true), (11, some true), (12, some true), (13, some true), (14, some true)] [] [(_, some true), (_, some true), (_, some true), (_, some true), (_, some true), (_, some true), (_, some true), (_, some true), (_, some true), (_, some true), (_, some true), (_, some true), (_, some true), (_, some true), (_, some true)] _ (blind_then (blind_then (blind_block (blind_then (blind_then (blind_block (blind_then blind_body))))))) rfl (by kernel_rfl) (by kernel_rfl) rfl rfl rfl (by kernel_rfl) St.drawn (fun _ h => h) ?_
        refine d_q rfl (q_move rfl rfl) rfl rfl ?_
        refine d_q rfl (q_move rfl rfl) rfl rfl ?_
        refine d_q rfl (q_lenV rfl Try.underlying25 rfl (fun _ h => h.rd 0 rfl)) rfl rfl ?_
        refine d_q rfl (q_lss rfl rfl rfl) rfl rfl ?_
        refine d_q rfl (q_move rfl rfl) rfl rfl ?_
        refine Pre.setB (t := 41) (c := false) rfl (decide_eq_false (by omega)) ?_
        refine d_not rfl rfl rfl ?_
        refine d_not rfl rfl rfl ?_
        refine d_not rfl rfl rfl ?_
        refine d_not rfl rfl rfl ?_
        refine d_not rfl rfl rfl ?_
        refine d_not rfl rfl rfl ?_
        refine d_not rfl rfl rfl ?_
        refine d_not rfl rfl rfl ?_
        refine d_not rfl rfl rfl ?_
        refine d_q rfl (q_pick_f rfl rfl rfl) rfl rfl ?_
        refine d_nil ?_
        refine k_then ?_
        refine c_false rfl ?_
        refine c_skip ?_
        refine k_then ?_
        refine c_seq ?_
        refine c_region _ rfl ?_
        refine l_q rfl (q_assign rfl rfl) rfl rfl ?_
        refine l_nil ?_
        refine k_then ?_
        refine c_seq ?_
        have hne : ¬ (oi (l.take i))[p]? = some x := fun e => by rw [hno] at e; cases e
        have hins : insK x (oi (l.take i)) = (oi (l.take i)).take p ++ [x] ++ (oi (l.take i)).drop p := hat.trans (if_neg hne)
        refine row0 24 (Kv.enc 8) none ?_
        refine c_any (fun w2 => RdV w2 v (Kv.enc 8) (oi (l.take i)) ∧ RdV w2 va (Kv.enc 8) l) rfl St.drawn ?_
        refine a_q (blind_then (blind_block (blind_then (blind_then (blind_block (blind_then blind_body)))))) 0 rfl (by kernel_rfl) (by kernel_rfl) (by kernel_rfl) (fun _ h => ⟨h.rd 1 rfl, hl.keep h (by simp [dom])⟩) rfl (q_move rfl rfl) rfl rfl ?_
        refine a_q (blind_then (blind_block (blind_then (blind_then (blind_block (blind_then blind_body)))))) 1 rfl (by kernel_rfl) (by kernel_rfl) (by kernel_rfl) (fun _ h => ⟨h.rd 1 rfl, hl.keep h (by simp [dom])⟩) rfl (q_move rfl rfl) rfl rfl ?_
        refine a_q (blind_then (blind_block (blind_then (blind_then (blind_block (blind_then blind_body)))))) 2 rfl (by kernel_rfl) (by kernel_rfl) (by kernel_rfl) (fun _ h => ⟨h.rd 1 rfl, hl.keep h (by simp [dom])⟩) rfl (q_move rfl rfl) rfl rfl ?_
        refine a_q (blind_then (blind_block (blind_then (blind_then (blind_block (blind_then blind_body)))))) 3 rfl (by kernel_rfl) (by kernel_rfl) (by kernel_rfl) (fun _ h => ⟨h.rd 1 rfl, hl.keep h (by simp [dom])⟩) rfl (q_sliceVH p rfl Try.underlying25 Try.sizeOf24 rfl (fun _ h => h.1) rfl rfl (by omega)) rfl rfl ?_
        refine a_q (blind_then (blind_block (blind_then (blind_then (blind_block (blind_then blind_body)))))) 5 rfl (by kernel_rfl) (by kernel_rfl) (by kernel_rfl) (fun _ h => ⟨h.rd 1 rfl, hl.keep h (by simp [dom])⟩) rfl (q_move rfl rfl) rfl rfl ?_
        refine a_q (blind_then (blind_block (blind_then (blind_then (blind_block (blind_then blind_body)))))) 6 rfl (by kernel_rfl) (by kernel_rfl) (by kernel_rfl) (fun _ h => ⟨h.rd 1 rfl, hl.keep h (by simp [dom])⟩) rfl (q_move rfl rfl) rfl rfl ?_
        refine a_q (blind_then (blind_block (blind_then (blind_then (blind_block (blind_then blind_body)))))) 7 rfl (by kernel_rfl) (by kernel_rfl) (by kernel_rfl) (fun _ h => ⟨h.rd 1 rfl, hl.keep h (by simp [dom])⟩) rfl (q_indexV i rfl Try.underlying25 Try.sizeOf24 rfl (fun _ h => h.2) rfl rfl (by omega)) rfl rfl ?_
        refine a_q (blind_then (blind_block (blind_then (blind_then (blind_block (blind_then blind_body)))))) 8 rfl (by kernel_rfl) (by kernel_rfl) (by kernel_rfl) (fun _ h => ⟨h.rd 1 rfl, hl.keep h (by simp [dom])⟩) rfl (q_loadVAgg i rfl Try.isAgg24 Try.sizeOf24 rfl rfl (fun _ h => h.2) hx) rfl rfl ?_
        refine a_q (blind_then (blind_block (blind_then (blind_then (blind_block (blind_then blind_body)))))) 11 rfl (by kernel_rfl) (by kernel_rfl) (by kernel_rfl) (fun _ h => ⟨h.rd 1 rfl, hl.keep h (by simp [dom])⟩) rfl (q_move rfl rfl) rfl rfl ?_
        refine a_q (blind_then (blind_block (blind_then (blind_then (blind_block (blind_then blind_body)))))) 12 rfl (by kernel_rfl) (by kernel_rfl) (by kernel_rfl) (fun _ h => ⟨h.rd 1 rfl, hl.keep h (by simp [dom])⟩) rfl (q_move rfl rfl) rfl rfl ?_
        refine a_q (blind_then (blind_block (blind_then (blind_then (blind_block (blind_then blind_body)))))) 13 rfl (by kernel_rfl) (by kernel_rfl) (by kernel_rfl) (fun _ h => ⟨h.rd 1 rfl, hl.keep h (by simp [dom])⟩) rfl (q_sliceVL p rfl Try.underlying25 Try.sizeOf24 rfl (fun _ h => h.1) rfl rfl (by omega)) rfl rfl ?_
        refine a_all2 4 9 (by kernel_rfl) rfl rfl rfl rfl ?_ ?_ 
        · refine e_append rfl rfl rfl Try.underlying25 Try.underlying25 info24 rfl rfl rfl rfl rfl (fun _ h => vsl_rd (h.rd 1 rfl) (lo := 0) (hi := p) (Nat.zero_le _) hp1) (by simp only [byt24, List.length_append, List.length_cons, List.length_nil, List.length_drop, List.length_take]; omega) (by simp only [List.length_append, List.length_cons, List.length_nil, List.length_drop, List.length_take]; omega) ?_
          intro v12
          refine d_held (fun _ h => ⟨h.rd 1 rfl, hl.keep h (by simp [dom])⟩) ?_
          refine a_all1 9 (by kernel_rfl) rfl rfl ?_
          refine e_buildSliceV (sz := 9) [.tmp 60] rfl rfl rfl rfl rfl Try.underlying25 Try.sizeOf24 rfl Try.zeroValue24 (by simp [Value.cells, Kv.enc, Kv.c_len]) ?_
          intro b13
          refine d_held (fun _ h => ⟨h.rd 2 rfl, hl.keep h (by simp [dom])⟩) ?_
          refine pull1 ?_
          refine a_all1 10 (by kernel_rfl) rfl rfl ?_
          refine e_append rfl rfl rfl Try.underlying25 Try.underlying25 info24 rfl rfl rfl rfl rfl (fun _ h => lit_rd (h.at 1 rfl) (Kv.enc 8) [x] (by simp [cellsOf, Enc.flat, Kv.enc, Value.cells]) rfl) (by simp only [byt24, List.length_append, List.length_cons, List.length_nil, List.length_drop, List.length_take]; omega) (by simp only [List.length_append, List.length_cons, List.length_nil, List.length_drop, List.length_take]; omega) ?_
          intro v14
          refine d_held (fun _ h => ⟨h.rd 2 rfl, hl.keep h (by simp [dom])⟩) ?_
          refine a_all1 14 (by kernel_rfl) rfl rfl ?_
          refine e_append rfl rfl rfl Try.underlying25 Try.underlying25 info24 rfl rfl rfl rfl rfl (fun _ h => vsl_rd (h.rd 2 rfl) (lo := p) (hi := (oi (l.take i)).length) hp1 (Nat.le_refl _)) (by simp only [byt24, List.length_append, List.length_cons, List.length_nil, List.length_drop, List.length_take]; omega) (by simp only [List.length_append, List.length_cons, List.length_nil, List.length_drop, List.length_take]; omega) ?_
          intro v15
          refine d_held (fun _ h => ⟨h.rd 2 rfl, hl.keep h (by simp [dom])⟩) ?_
          refine a_q (blind_then (blind_block (blind_then (blind_then (blind_block (blind_then blind_body)))))) 15 rfl (by kernel_rfl) (by kernel_rfl) (by kernel_rfl) (fun _ h => ⟨h.rd 2 rfl, hl.keep h (by simp [dom])⟩) rfl (q_assign rfl rfl) rfl rfl ?_
          refine a_nil (by kernel_rfl) ?_
          refine k_then ?_
          refine c_region _ rfl ?_
          refine l_q rfl (q_move rfl rfl) rfl rfl ?_
          refine l_q rfl (q_assign rfl rfl) rfl rfl ?_
          refine l_nil ?_
          refine k_block ?_
          refine k_then ?_
          refine c_region _ rfl ?_
          refine l_q rfl (q_move rfl rfl) rfl rfl ?_
          refine l_q rfl (q_inc rfl rfl rfl (by omega)) rfl rfl ?_
          refine l_q rfl (q_assign rfl rfl) rfl rfl ?_
          refine l_nil ?_
          refine row_eq (l' := oi (l.take (i + 1))) (by rw [hos, hins]; simp) ?_
          refine pull2 ?_
          refine drop0 ?_
          refine pull1 ?_
          refine drop0 ?_
          exact k_round ((i + 1, v15)) (by dsimp only; omega) (by dsimp only; omega) (Sub.cons rfl (Sub.cons rfl (Sub.cons rfl (Sub.nil)))) (fun _ h => h)
        · refine e_buildSliceV (sz := 9) [.tmp 60] rfl rfl rfl rfl rfl Try.underlying25 Try.sizeOf24 rfl Try.zeroValue24 (by simp [Value.cells, Kv.enc, Kv.c_len]) ?_
          intro b16
          refine d_held (fun _ h => ⟨h.rd 2 rfl, hl.keep h (by simp [dom])⟩) ?_
          refine pull1 ?_
          refine a_all1 4 (by kernel_rfl) rfl rfl ?_
          refine e_append rfl rfl rfl Try.underlying25 Try.underlying25 info24 rfl rfl rfl rfl rfl (fun _ h => vsl_rd (h.rd 2 rfl) (lo := 0) (hi := p) (Nat.zero_le _) hp1) (by simp only [byt24, List.length_append, List.length_cons, List.length_nil, List.length_drop, List.length_take]; omega) (by simp only [List.length_append, List.length_cons, List.length_nil, List.length_drop, List.length_take]; omega) ?_
          intro v17
          refine d_held (fun _ h => ⟨h.rd 2 rfl, hl.keep h (by simp [dom])⟩) ?_
          refine a_all1 10 (by kernel_rfl) rfl rfl ?_
          refine e_append rfl rfl rfl Try.underlying25 Try.underlying25 info24 rfl rfl rfl rfl rfl (fun _ h => lit_rd (h.at 1 rfl) (Kv.enc 8) [x] (by simp [cellsOf, Enc.flat, Kv.enc, Value.cells]) rfl) (by simp only [byt24, List.length_append, List.length_cons, List.length_nil, List.length_drop, List.length_take]; omega) (by simp only [List.length_append, List.length_cons, List.length_nil, List.length_drop, List.length_take]; omega) ?_
          intro v18
          refine d_held (fun _ h => ⟨h.rd 2 rfl, hl.keep h (by simp [dom])⟩) ?_
          refine a_all1 14 (by kernel_rfl) rfl rfl ?_
          refine e_append rfl rfl rfl Try.underlying25 Try.underlying25 info24 rfl rfl rfl rfl rfl (fun _ h => vsl_rd (h.rd 2 rfl) (lo := p) (hi := (oi (l.take i)).length) hp1 (Nat.le_refl _)) (by simp only [byt24, List.length_append, List.length_cons, List.length_nil, List.length_drop, List.length_take]; omega) (by simp only [List.length_append, List.length_cons, List.length_nil, List.length_drop, List.length_take]; omega) ?_
          intro v19
          refine d_held (fun _ h => ⟨h.rd 2 rfl, hl.keep h (by simp [dom])⟩) ?_
          refine a_q (blind_then (blind_block (blind_then (blind_then (blind_block (blind_then blind_body)))))) 15 rfl (by kernel_rfl) (by kernel_rfl) (by kernel_rfl) (fun _ h => ⟨h.rd 2 rfl, hl.keep h (by simp [dom])⟩) rfl (q_assign rfl rfl) rfl rfl ?_
          refine a_nil (by kernel_rfl) ?_
          refine k_then ?_
          refine c_region _ rfl ?_
          refine l_q rfl (q_move rfl rfl) rfl rfl ?_
          refine l_q rfl (q_assign rfl rfl) rfl rfl ?_
          refine l_nil ?_
          refine k_block ?_
          refine k_then ?_
          refine c_region _ rfl ?_
          refine l_q rfl (q_move rfl rfl) rfl rfl ?_
          refine l_q rfl (q_inc rfl rfl rfl (by omega)) rfl rfl ?_
          refine l_q rfl (q_assign rfl rfl) rfl rfl ?_
          refine l_nil ?_
          refine row_eq (l' := oi (l.take (i + 1))) (by rw [hos, hins]; simp) ?_
          refine pull2 ?_
          refine drop0 ?_
          refine pull1 ?_
          refine drop0 ?_
          exact k_round ((i + 1, v19)) (by dsimp only; omega) (by dsimp only; omega) (Sub.cons rfl (Sub.cons rfl (Sub.cons rfl (Sub.nil)))) (fun _ h => h)
  · try simp only [decide_eq_true_eq, decide_eq_false_iff_not, Bool.not_eq_true', Bool.not_eq_false'] at h1
    have hie : i = l.length := by omega
    subst hie
    rw [List.take_length]
    refine c_false rfl ?_
    refine c_exit ?_
    refine k_then_exit ?_
    refine k_then_exit ?_
    refine k_block_exit ?_
    refine k_then ?_
    refine c_seq ?_
    refine c_region _ rfl ?_
    refine l_q rfl (q_move rfl rfl) rfl rfl ?_
    refine l_q rfl (q_assign rfl rfl) rfl rfl ?_
    refine l_nil ?_
    refine k_then ?_
    refine c_ret ?_
    refine r_one rfl rfl ?_
    exact fun _ h => ⟨v, rfl, trivial, h⟩
end Go.Proofs.Ytaojcncmbbgmcaa
