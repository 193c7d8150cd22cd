/- keys: Check, Of, Text, Compare -/
import Derived.Test.YtaojcncmbbgmcaaM
set_option linter.unusedVariables false
set_option linter.unusedSimpArgs false
namespace Go.Proofs.Ytaojcncmbbgmcaa
open Go.Sep Go.RowKit

/-- A key's cells. -/
abbrev kc (n : Int) (l : List Int) : List Value := .int .i64 n :: l.map (.int .u8)
theorem kc_len {n : Int} {l : List Int} (h : l.length = 8) : (kc n l).length = 9 := by simp [h]
theorem kc_whole {n : Int} {l : List Int} (h : l.length = 8) : ((kc n l).drop 0).take 9 = kc n l := List.take_of_length_le (by simp [h])
theorem kc_get {n : Int} {l : List Int} (h : l.length = 8) {j : Nat} (hj : j < 8) : (kc n l)[0 + 1 + j * 1]? = some (.int .u8 (l.getD j 0)) := by
  rw [show 0 + 1 + j * 1 = j + 1 from by omega]
  have : j < l.length := by omega
  simp [List.getD_eq_getElem?_getD, this]
theorem kc_set {n : Int} {l : List Int} {j : Nat} (x : Int) : (kc n l).set (0 + 1 + j * 1) (.int .u8 x) = kc n (l.set j x) := by
  rw [show 0 + 1 + j * 1 = j + 1 from by omega]
  simp [List.map_set]
theorem kc_n {n m : Int} {l : List Int} : (kc n l).set 0 (.int .i64 m) = kc m l := rfl
theorem kc_one {n : Int} {l : List Int} : ∀ v ∈ kc n l, v.oneCell' = true := by
  intro v hv
  rcases List.mem_cons.1 hv with rfl | hv
  · rfl
  · obtain ⟨z, _, rfl⟩ := List.mem_map.1 hv; rfl
theorem kc_all {n m : Int} {l k : List Int} (h : l.length = 8) (h' : k.length = 8) : Sep.splice (kc n l) 0 (kc m k) = kc m k := Sep.splice_all (by rw [kc_len h, kc_len h'])
abbrev z8 : List Int := List.replicate 8 0
theorem z8_len : z8.length = 8 := rfl
theorem kc_part {n : Int} {l : List Int} {m : Nat} (h : m ≤ l.length) : ((kc n l).drop (0 + 1)).take (m * (encI .u8).sz) = (encI .u8).flat (l.take m) := by
  rw [flat_u8]
  show ((l.map (Value.int .u8))).take (m * 1) = _
  rw [Nat.mul_one, List.map_take]
/-- Bytes put in front. -/
theorem kc_put {n : Int} {l : List Int} (h : l.length ≤ 8) : Sep.splice (kc n z8) (0 + 1) (l.map (.int .u8)) = kc n (l ++ List.replicate (8 - l.length) 0) := by
  have hz : z8 = List.replicate l.length 0 ++ List.replicate (8 - l.length) 0 := by
    show List.replicate 8 0 = _
    rw [List.replicate_append_replicate, show l.length + (8 - l.length) = 8 from by omega]
  have e : kc n z8 = [Value.int .i64 n] ++ (List.replicate l.length (Value.int .u8 0) ++ List.replicate (8 - l.length) (Value.int .u8 0)) := by
    rw [kc, hz]; simp [List.map_append, List.map_replicate]
  have hs := splice_mid (a := [Value.int .i64 n]) (b := List.replicate l.length (Value.int .u8 0)) (c := List.replicate (8 - l.length) (Value.int .u8 0)) (vs := l.map (Value.int .u8)) (k := 0 + 1) rfl (by simp)
  rw [e, hs]
  simp [kc, List.map_append, List.map_replicate]
/-- Bytes behind, cleared. -/
theorem kc_clear {n : Int} {l : List Int} {m : Nat} (h : l.length = 8) (hm : m ≤ 8) : Sep.splice (kc n l) (0 + 1 + m) (List.replicate (8 - m) (Value.int .u8 0)) = kc n (l.take m ++ List.replicate (8 - m) 0) := by
  rw [Sep.splice_eq _ _ _ (by simp [h]; omega)]
  rw [show 0 + 1 + m = m + 1 from by omega]
  simp only [kc, List.take_succ_cons, List.length_replicate, List.map_append, List.map_replicate, List.map_take]
  rw [show m + 1 + (8 - m) = 9 from by omega, List.drop_eq_nil_of_le (by simp [h])]
  simp
theorem kc_clearP {n : Int} {l : List Int} {m : Nat} (h : l.length = 8) (hm : m ≤ 8) : Sep.splice (kc n l) (0 + 1 + (if 8 = m then 0 else m * 1)) (List.replicate (8 - m) (Value.int .u8 0)) = kc n (l.take m ++ List.replicate (8 - m) 0) := by
  by_cases h8 : 8 = m
  · subst h8
    rw [if_pos rfl, List.take_of_length_le (by omega)]
    simp [Sep.splice]
  · rw [if_neg h8, Nat.mul_one, kc_clear h hm]
theorem key8 {k : Kv 8} (h : kck k = true) (hn : k.n = 8) : tx k = k.b := by
  obtain ⟨m, h1, h2, h3, h4, h5⟩ := kck_parts h
  have : m = 8 := by omega
  subst this
  rw [h3]; exact List.take_of_length_le (by rw [k.len]; exact Nat.le_refl _)
theorem next_lt {k : Kv 8} {m : Nat} (h : kck k = true) (hm : k.n = (m : Int)) (h8 : m < 8) : ∃ z : Kv 8, kck z = true ∧ tn (tx k) = some (tx z) ∧ z.c = kc (k.n + 1) k.b := by
  obtain ⟨p, h1, h2, h3, h4, h5⟩ := kck_parts h
  have hp : p = m := by omega
  subst hp
  have hb : ∀ x ∈ tx k ++ [0], Byte x := fun x hx => by
    rcases List.mem_append.1 hx with hx | hx
    · exact tx_byte hx
    · simp at hx; subst hx; exact ⟨by decide, by decide⟩
  refine ⟨kmk (tx k ++ [0]) (by simp [h4]; omega) hb, kmk_ck _ _ _, ?_, ?_⟩
  · unfold tn; rw [if_pos (by omega), tx_kmk]
  · have hl : (tx k ++ [0]).length = p + 1 := by simp [h4]
    have hb' : (tx k ++ [0]) ++ List.replicate (8 - (p + 1)) 0 = k.b := by
      conv => rhs; rw [h5]
      rw [List.append_assoc]; congr 1
      rw [show 8 - p = (8 - (p + 1)) + 1 from by omega, List.replicate_succ]; rfl
    show kc (((tx k ++ [0]).length : Nat) : Int) ((tx k ++ [0]) ++ List.replicate (8 - (tx k ++ [0]).length) 0) = kc (k.n + 1) k.b
    rw [hl, hb', hm]; rfl
theorem next_at {k : Kv 8} {m : Nat} (h : kck k = true) (hn : k.n = 8) (hm : m < 8) (hx : k.b.getD m 0 < 255) (hl : ∀ j, m < j → j < 8 → k.b.getD j 0 = 255) : ∃ z : Kv 8, kck z = true ∧ tn (tx k) = some (tx z) ∧ z.c = kc ((m : Int) + 1) (k.b.take m ++ (k.b.getD m 0 + 1) :: List.replicate (7 - m) 0) := by
  have ht := key8 h hn
  have hlen := k.len
  have hxb : Byte (k.b.getD m 0) := by
    refine byte_wf (k.wb _ ?_)
    rw [List.getD_eq_getElem?_getD, List.getElem?_eq_getElem (by omega)]
    exact List.getElem_mem _
  have hb : ∀ x ∈ k.b.take m ++ [k.b.getD m 0 + 1], Byte x := fun x hx' => by
    rcases List.mem_append.1 hx' with h' | h'
    · exact byte_wf (k.wb x (List.mem_of_mem_take h'))
    · simp only [List.mem_singleton] at h'; subst h'; exact ⟨by have := hxb.1; omega, by omega⟩
  have hll : (k.b.take m ++ [k.b.getD m 0 + 1]).length = m + 1 := by simp [hlen]; omega
  refine ⟨kmk (k.b.take m ++ [k.b.getD m 0 + 1]) (by rw [hll]; omega) hb, kmk_ck _ _ _, ?_, ?_⟩
  · unfold tn
    rw [ht, if_neg (by omega), tx_kmk]
    refine nx_at (x := k.b.getD m 0) ?_ hx (fun j y hj hy => ?_)
    · simp [List.getD_eq_getElem?_getD, show m < k.b.length by omega]
    · have hj8 : j < 8 := by have := (List.getElem?_eq_some_iff.1 hy).1; omega
      have := hl j hj hj8
      rw [List.getD_eq_getElem?_getD, hy] at this; exact this
  · show kc (((k.b.take m ++ [k.b.getD m 0 + 1]).length : Nat) : Int) ((k.b.take m ++ [k.b.getD m 0 + 1]) ++ List.replicate (8 - (k.b.take m ++ [k.b.getD m 0 + 1]).length) 0) = _
    rw [hll, List.append_assoc, show 8 - (m + 1) = 7 - m from by omega]; rfl
theorem next_no {k : Kv 8} (h : kck k = true) (hn : k.n = 8) (hl : ∀ j, j < 8 → k.b.getD j 0 = 255) : tn (tx k) = none := by
  have ht := key8 h hn
  unfold tn
  rw [ht, if_neg (by rw [k.len]; omega)]
  refine nx_none (fun x hx => ?_)
  obtain ⟨j, hj, e⟩ := List.getElem_of_mem hx
  have := hl j (by rw [← k.len]; exact hj)
  rw [List.getD_eq_getElem?_getD, List.getElem?_eq_getElem hj] at this
  rw [← e]; exact this
theorem kb_le {k : Kv 8} {m : Nat} (hm : m < 8) : k.b.getD m 0 ≤ 255 := by
  have : Byte (k.b.getD m 0) := by
    refine byte_wf (k.wb _ ?_)
    rw [List.getD_eq_getElem?_getD, List.getElem?_eq_getElem (by rw [k.len]; exact hm)]
    exact List.getElem_mem _
  exact this.2
theorem set_take {l : List Int} {m : Nat} {x : Int} (h : l.length = 8) (hm : m < 8) : ((l.set m x).take (m + 1)) ++ List.replicate (8 - (m + 1)) 0 = l.take m ++ x :: List.replicate (7 - m) 0 := by
  rw [List.take_set, List.take_add_one, List.getElem?_eq_getElem (by omega)]
  rw [List.set_append_right _ _ (by simp; omega)]
  simp [h, show min m 8 = m by omega]
/-- Where bytes differ. -/
theorem cmp_step {a b : Kv 8} {m k i : Nat} (ha : tx a = a.b.take m) (hb : tx b = b.b.take k) (hm : m ≤ 8) (hk : k ≤ 8) (him : i < m) (hik : i < k) (e : lexI (tx a) (tx b) = lexI ((tx a).drop i) ((tx b).drop i)) :
    lexI (tx a) (tx b) = if a.b.getD i 0 < b.b.getD i 0 then -1 else if b.b.getD i 0 < a.b.getD i 0 then 1 else lexI ((tx a).drop (i + 1)) ((tx b).drop (i + 1)) := by
  have h1 : ∀ {c : Kv 8} {n : Nat}, tx c = c.b.take n → n ≤ 8 → i < n → (tx c).drop i = c.b.getD i 0 :: (tx c).drop (i + 1) := fun {c n} h hn hi => by
    have hl : (tx c).length = n := by rw [h]; simp [c.len]; omega
    rw [List.drop_eq_getElem_cons (by omega)]
    congr 1
    have hc : i < c.b.length := by rw [c.len]; omega
    rw [List.getD_eq_getElem?_getD, List.getElem?_eq_getElem hc]
    simp only [h, List.getElem_take, Option.getD_some]
  rw [e, h1 ha hm him, h1 hb hk hik, lexI]
theorem cmp_end {a b : Kv 8} {m k i : Nat} (hm : (tx a).length = m) (hk : (tx b).length = k) (e : lexI (tx a) (tx b) = lexI ((tx a).drop i) ((tx b).drop i)) :
    (m ≤ i → k ≤ i → kcmp a b = 0) ∧ (m ≤ i → i < k → kcmp a b = -1) ∧ (i < m → k ≤ i → kcmp a b = 1) := by
  unfold kcmp
  have hz : ∀ {l : List Int}, l.length ≤ i → l.drop i = [] := fun h => List.drop_eq_nil_of_le h
  have hc : ∀ {l : List Int}, i < l.length → ∃ x t, l.drop i = x :: t := fun {l} h => ⟨l[i], l.drop (i + 1), List.drop_eq_getElem_cons h⟩
  refine ⟨fun h1 h2 => ?_, fun h1 h2 => ?_, fun h1 h2 => ?_⟩
  · rw [e, hz (by omega), hz (by omega)]; rfl
  · obtain ⟨x, t, hx⟩ := hc (l := tx b) (by omega)
    rw [e, hz (by omega), hx]; rfl
  · obtain ⟨x, t, hx⟩ := hc (l := tx a) (by omega)
    rw [e, hx, hz (l := tx b) (by omega)]; rfl

set_option maxRecDepth 100000 in
set_option maxHeartbeats 1000000 in
theorem kcheck_spec (k : Kv 8) : Con Try.prog 13 [.agg k.c.toArray] (fun _ => True) [] (fun _ : Unit => .bool (kck k)) (fun _ => True) (fun _ => []) := by
  intro w hE hH
  refine enter (n := 25) (vs := [.agg k.c.toArray]) (St w [] []) Try.func13 rfl rfl rfl (St.init hH) ?_
  refine c_seq ?_
  refine c_region _ rfl ?_
  refine l_e rfl ?_
  refine e_box rfl rfl rfl rfl ?_
  intro bk
  refine cells_eq (show _ = k.c from rfl) ?_
  refine l_q rfl (q_assign rfl rfl) rfl rfl ?_
  refine l_nil ?_
  refine k_then ?_
  refine c_seq ?_
  refine c_seq ?_
  refine c_region _ rfl ?_
  refine l_q rfl (q_fieldAddr rfl Try.underlying24 rfl Try.sizeOf3 rfl rfl) rfl rfl ?_
  refine l_q rfl (q_loadC rfl Try.isAgg3 rfl (fun _ h => h.at 0 rfl) rfl) rfl rfl ?_
  refine l_q rfl (q_lss rfl rfl rfl) rfl rfl ?_
  refine l_q rfl (q_move rfl rfl) rfl rfl ?_
  refine Pre.caseB 7 rfl (fun h1 => ?_) (fun h1 => ?_)
  · try simp only [decide_eq_true_eq, decide_eq_false_iff_not, Bool.not_eq_true', Bool.not_eq_false'] at h1
    rw [kck_lo h1]
    refine l_not rfl rfl rfl ?_
    refine l_not rfl rfl rfl ?_
    refine l_not rfl rfl rfl ?_
    refine l_q rfl (q_pick_t rfl rfl rfl) rfl rfl ?_
    refine l_nil ?_
    refine k_then ?_
    refine c_true rfl ?_
    refine c_seq ?_
    refine c_region _ rfl ?_
    refine l_q rfl (q_assign rfl rfl) rfl rfl ?_
    refine l_nil ?_
    refine k_then ?_
    refine c_ret ?_
    refine k_then_ret ?_
    refine r_one rfl rfl ?_
    exact fun _ h => ⟨(), rfl, trivial, h.nothing⟩
  · try simp only [decide_eq_true_eq, decide_eq_false_iff_not, Bool.not_eq_true', Bool.not_eq_false'] at h1
    refine l_q rfl (q_fieldAddr rfl Try.underlying24 rfl Try.sizeOf3 rfl rfl) rfl rfl ?_
    refine l_q rfl (q_loadC rfl Try.isAgg3 rfl (fun _ h => h.at 0 rfl) rfl) rfl rfl ?_
    refine l_q rfl (q_gtr rfl rfl rfl) rfl rfl ?_
    refine l_q rfl (q_pick_f rfl rfl rfl) rfl rfl ?_
    refine l_nil ?_
    refine k_then ?_
    refine Pre.caseB 11 rfl (fun h2 => ?_) (fun h2 => ?_)
    · try simp only [decide_eq_true_eq, decide_eq_false_iff_not, Bool.not_eq_true', Bool.not_eq_false'] at h2
      rw [kck_hi h2]
      refine c_true rfl ?_
      refine c_seq ?_
      refine c_region _ rfl ?_
      refine l_q rfl (q_assign rfl rfl) rfl rfl ?_
      refine l_nil ?_
      refine k_then ?_
      refine c_ret ?_
      refine k_then_ret ?_
      refine r_one rfl rfl ?_
      exact fun _ h => ⟨(), rfl, trivial, h.nothing⟩
    · try simp only [decide_eq_true_eq, decide_eq_false_iff_not, Bool.not_eq_true', Bool.not_eq_false'] at h2
      obtain ⟨m, hm, hm8⟩ : ∃ m : Nat, k.n = (m : Int) ∧ m ≤ 8 := ⟨k.n.toNat, by omega, by omega⟩
      refine c_false rfl ?_
      refine c_skip ?_
      refine k_then ?_
      refine c_seq ?_
      refine c_region _ rfl ?_
      refine l_q rfl (q_fieldAddr rfl Try.underlying24 rfl Try.sizeOf3 rfl rfl) rfl rfl ?_
      refine l_q rfl (q_loadC rfl Try.isAgg3 rfl (fun _ h => h.at 0 rfl) rfl) rfl rfl ?_
      refine l_q rfl (q_build ((kz 8 k.n k.wn).c) rfl rfl (fun w => by kernel_rfl)) rfl rfl ?_
      refine l_e rfl ?_
      refine e_alloc rfl rfl rfl Try.zeroValue24 ?_
      intro bx
      refine l_e rfl ?_
      refine e_storeAgg rfl rfl Try.sizeOf24 rfl rfl rfl (Kv.one _) (Nat.le_of_ble_eq_true rfl) ?_
      refine cells_eq (show _ = .int .i64 k.n :: List.replicate 8 (.int .u8 0) from rfl) ?_
      refine l_nil ?_
      refine k_then ?_
      refine c_seq ?_
      refine c_draw [(0, some true), (1, some true), (2, some true), (3, some true), (4, some true), (5, some true), (6, none)] [6] [(_, some true), (_, some true), (_, some true), (_, some true), (_, some true), (_, some true), (_, none)] _ (blind_then blind_body) rfl (by kernel_rfl) (by kernel_rfl) rfl rfl rfl (by kernel_rfl) St.drawn (fun _ h => h) ?_
      refine d_q rfl (q_fieldAddr rfl Try.underlying24 rfl Try.sizeOf22 rfl rfl) rfl rfl ?_
      refine d_q rfl (q_fieldAddr rfl Try.underlying24 rfl Try.sizeOf3 rfl rfl) rfl rfl ?_
      refine d_q rfl (q_loadC rfl Try.isAgg3 rfl (fun _ h => h.at 1 rfl) rfl) rfl rfl ?_
      refine d_q rfl (q_sliceArrH m rfl Try.underlying22 Try.sizeOf5 rfl rfl hm (by omega)) rfl rfl ?_
      refine d_q rfl (q_fieldAddr rfl Try.underlying24 rfl Try.sizeOf22 rfl rfl) rfl rfl ?_
      refine d_q rfl (q_sliceArr rfl Try.underlying22 Try.sizeOf5 rfl) rfl rfl ?_
      refine d_t rfl ?_
      refine e_copy (E := (encI .u8)) (l := k.b) rfl rfl rfl Try.underlying51 Try.sizeOf5 rfl rfl (fun _ h => rd_part (h.at 1 rfl) (encI .u8) k.b k.len (Nat.le_refl _) (by rw [flat_u8]; exact List.take_of_length_le (by simp [Kv.c, k.len, encI]))) (by simp [k.len, encI]; omega) ?_
      refine cells_eq (show _ = (kcut k m hm8).c from by rw [hm]; exact kcopy k hm8) ?_
      refine d_nil ?_
      refine k_then ?_
      refine c_seq ?_
      refine c_region _ rfl ?_
      refine l_q rfl (q_loadCAgg ((kcut k m hm8).c) rfl Try.isAgg24 Try.sizeOf24 rfl (fun _ h => h.at 0 rfl) (kv_whole _) (Kv.c_len _)) rfl rfl ?_
      refine l_q rfl (q_loadCAgg (k.c) rfl Try.isAgg24 Try.sizeOf24 rfl (fun _ h => h.at 1 rfl) (kv_whole _) (Kv.c_len _)) rfl rfl ?_
      refine l_q rfl (q_eqK ((kcut k m hm8)) (k) rfl rfl rfl) rfl rfl ?_
      refine l_q rfl (q_assign rfl rfl) rfl rfl ?_
      refine l_nil ?_
      refine k_then ?_
      refine c_ret ?_
      rw [← kcut_eq k hm hm8]
      refine r_one rfl rfl ?_
      exact fun _ h => ⟨(), rfl, trivial, h.nothing⟩
set_option maxRecDepth 100000 in
set_option maxHeartbeats 1000000 in
theorem rkcheck_spec (k : Kv 8) : Con Try.prog 14 [.agg k.c.toArray] (fun _ => True) [] (fun _ : Unit => .bool (kck k)) (fun _ => True) (fun _ => []) := by
  intro w hE hH
  refine enter (n := 23) (vs := [.agg k.c.toArray]) (St w [] []) Try.func14 rfl rfl rfl (St.init hH) ?_
  refine c_seq ?_
  refine c_region _ rfl ?_
  refine l_e rfl ?_
  refine e_box rfl rfl rfl rfl ?_
  intro bk
  refine cells_eq (show _ = k.c from rfl) ?_
  refine l_q rfl (q_assign rfl rfl) rfl rfl ?_
  refine l_nil ?_
  refine k_then ?_
  refine c_seq ?_
  refine c_seq ?_
  refine c_region _ rfl ?_
  refine l_q rfl (q_fieldAddr rfl Try.underlying24 rfl Try.sizeOf3 rfl rfl) rfl rfl ?_
  refine l_q rfl (q_loadC rfl Try.isAgg3 rfl (fun _ h => h.at 0 rfl) rfl) rfl rfl ?_
  refine l_q rfl (q_lss rfl rfl rfl) rfl rfl ?_
  refine l_q rfl (q_move rfl rfl) rfl rfl ?_
  refine Pre.caseB 7 rfl (fun h1 => ?_) (fun h1 => ?_)
  · try simp only [decide_eq_true_eq, decide_eq_false_iff_not, Bool.not_eq_true', Bool.not_eq_false'] at h1
    rw [kck_lo h1]
    refine l_not rfl rfl rfl ?_
    refine l_not rfl rfl rfl ?_
    refine l_not rfl rfl rfl ?_
    refine l_q rfl (q_pick_t rfl rfl rfl) rfl rfl ?_
    refine l_nil ?_
    refine k_then ?_
    refine c_true rfl ?_
    refine c_seq ?_
    refine c_region _ rfl ?_
    refine l_q rfl (q_assign rfl rfl) rfl rfl ?_
    refine l_nil ?_
    refine k_then ?_
    refine c_ret ?_
    refine k_then_ret ?_
    refine r_one rfl rfl ?_
    exact fun _ h => ⟨(), rfl, trivial, h.nothing⟩
  · try simp only [decide_eq_true_eq, decide_eq_false_iff_not, Bool.not_eq_true', Bool.not_eq_false'] at h1
    refine l_q rfl (q_fieldAddr rfl Try.underlying24 rfl Try.sizeOf3 rfl rfl) rfl rfl ?_
    refine l_q rfl (q_loadC rfl Try.isAgg3 rfl (fun _ h => h.at 0 rfl) rfl) rfl rfl ?_
    refine l_q rfl (q_gtr rfl rfl rfl) rfl rfl ?_
    refine l_q rfl (q_pick_f rfl rfl rfl) rfl rfl ?_
    refine l_nil ?_
    refine k_then ?_
    refine Pre.caseB 11 rfl (fun h2 => ?_) (fun h2 => ?_)
    · try simp only [decide_eq_true_eq, decide_eq_false_iff_not, Bool.not_eq_true', Bool.not_eq_false'] at h2
      rw [kck_hi h2]
      refine c_true rfl ?_
      refine c_seq ?_
      refine c_region _ rfl ?_
      refine l_q rfl (q_assign rfl rfl) rfl rfl ?_
      refine l_nil ?_
      refine k_then ?_
      refine c_ret ?_
      refine k_then_ret ?_
      refine r_one rfl rfl ?_
      exact fun _ h => ⟨(), rfl, trivial, h.nothing⟩
    · try simp only [decide_eq_true_eq, decide_eq_false_iff_not, Bool.not_eq_true', Bool.not_eq_false'] at h2
      obtain ⟨m, hm, hm8⟩ : ∃ m : Nat, k.n = (m : Int) ∧ m ≤ 8 := ⟨k.n.toNat, by omega, by omega⟩
      refine c_false rfl ?_
      refine c_skip ?_
      refine k_then ?_
      refine c_seq ?_
      refine c_seq ?_
      refine c_region _ rfl ?_
      refine l_q rfl (q_fieldAddr rfl Try.underlying24 rfl Try.sizeOf3 rfl rfl) rfl rfl ?_
      refine l_q rfl (q_loadC rfl Try.isAgg3 rfl (fun _ h => h.at 0 rfl) rfl) rfl rfl ?_
      refine l_q rfl (q_assign rfl rfl) rfl rfl ?_
      refine l_nil ?_
      refine k_then ?_
      refine c_block ?_
      refine c_loop1 (fun (i : Nat) => [(1, .pointer (some ⟨bk, 0, none⟩)), (3, .int .i64 (i : Int))]) (fun (i : Nat) => St w [] [cellsE bk 24 k.c]) (fun (i : Nat) => i ≤ 8 ∧ m ≤ i ∧ ∀ j, m ≤ j → j < i → k.b.getD j 0 = 0) (fun (i : Nat) => 8 - i) (m) ⟨hm8, Nat.le_refl _, fun j h1 h2 => by omega⟩ (Sub.cons rfl (Sub.consE rfl (by rw [hm]) Sub.nil)) (fun _ h => h) ?_
      intro i hp
      refine c_seq ?_
      refine c_seq ?_
      obtain ⟨hi, hmi, hz⟩ := hp
      refine c_region _ rfl ?_
      refine l_q rfl (q_move rfl rfl) rfl rfl ?_
      refine l_q rfl (q_lss rfl rfl rfl) rfl rfl ?_
      refine l_nil ?_
      refine k_then ?_
      refine Pre.caseB 15 rfl (fun hil => ?_) (fun hil => ?_)
      · try simp only [decide_eq_true_eq, decide_eq_false_iff_not, Bool.not_eq_true', Bool.not_eq_false'] at hil
        refine c_true rfl ?_
        refine c_skip ?_
        refine k_then ?_
        refine c_seq ?_
        refine c_block ?_
        refine c_seq ?_
        refine c_region _ rfl ?_
        refine l_q rfl (q_move rfl rfl) rfl rfl ?_
        refine l_q rfl (q_fieldAddr rfl Try.underlying24 rfl Try.sizeOf22 rfl rfl) rfl rfl ?_
        refine l_q rfl (q_indexArr i rfl Try.underlying22 Try.sizeOf5 rfl rfl rfl (by omega)) rfl rfl ?_
        refine l_q rfl (q_loadC rfl Try.isAgg5 rfl (fun _ h => h.at 0 rfl) (kc_get k.len (by omega))) rfl rfl ?_
        refine l_q rfl (q_neq rfl rfl rfl) rfl rfl ?_
        refine l_nil ?_
        refine k_then ?_
        refine Pre.caseB 22 rfl (fun hne => ?_) (fun hne => ?_)
        · try simp only [decide_eq_true_eq, decide_eq_false_iff_not, Bool.not_eq_true', Bool.not_eq_false'] at hne
          have hf : kck k = false := kck_no (i := i) (by omega) (by omega) (by simpa using hne)
          rw [hf]
          refine c_true rfl ?_
          refine c_seq ?_
          refine c_region _ rfl ?_
          refine l_q rfl (q_assign rfl rfl) rfl rfl ?_
          refine l_nil ?_
          refine k_then ?_
          refine c_ret ?_
          refine k_block_ret ?_
          refine k_then_ret ?_
          refine k_then_ret ?_
          refine k_block_ret ?_
          refine k_then_ret ?_
          refine r_one rfl rfl ?_
          exact fun _ h => ⟨(), rfl, trivial, h.nothing⟩
        · try simp only [decide_eq_true_eq, decide_eq_false_iff_not, Bool.not_eq_true', Bool.not_eq_false'] at hne
          refine c_false rfl ?_
          refine c_skip ?_
          refine k_block ?_
          refine k_then ?_
          refine c_region _ rfl ?_
          refine l_q rfl (q_move rfl rfl) rfl rfl ?_
          refine l_q rfl (q_inc rfl rfl rfl (by omega)) rfl rfl ?_
          refine l_q rfl (q_assign rfl rfl) rfl rfl ?_
          refine l_nil ?_
          exact k_round (i + 1) (by omega) ⟨by omega, by omega, fun j h1 h2 => by
              rcases Nat.lt_succ_iff_lt_or_eq.1 h2 with h3 | rfl
              · exact hz j h1 h3
              · simpa using hne⟩ (Sub.cons rfl (Sub.cons rfl (Sub.nil))) (fun _ h => h)
      · try simp only [decide_eq_true_eq, decide_eq_false_iff_not, Bool.not_eq_true', Bool.not_eq_false'] at hil
        have hf : kck k = true := kck_yes hm hm8 (fun j h1 h2 => hz j h1 (by omega))
        rw [hf]
        refine c_false rfl ?_
        refine c_exit ?_
        refine k_then_exit ?_
        refine k_then_exit ?_
        refine k_block_exit ?_
        refine k_then ?_
        refine c_seq ?_
        refine c_region _ rfl ?_
        refine l_q rfl (q_assign rfl rfl) rfl rfl ?_
        refine l_nil ?_
        refine k_then ?_
        refine c_ret ?_
        refine r_one rfl rfl ?_
        exact fun _ h => ⟨(), rfl, trivial, h.nothing⟩
set_option maxRecDepth 100000 in
set_option maxHeartbeats 1000000 in
theorem of_spec (s : ByteArray) (hs : s.size ≤ 9223372036854775807) : Con Try.prog 11 [.string s] (fun _ => True) [] (fun _ : Unit => if h : s.size ≤ 8 then .tuple #[.agg (kof s h).c.toArray, .int .i64 0] else .tuple #[.agg (kc 0 z8).toArray, .int .i64 2]) (fun _ => True) (fun _ => []) := by
  intro w hE hH
  refine enter (n := 17) (vs := [.string s]) (St w [] []) Try.func11 rfl rfl rfl (St.init hH) ?_
  refine c_seq ?_
  refine c_region _ rfl ?_
  refine l_e rfl ?_
  refine e_alloc rfl rfl rfl Try.zeroValue24 ?_
  intro br
  refine cells_eq (show _ = kc 0 z8 from rfl) ?_
  refine l_q rfl (q_assign rfl rfl) rfl rfl ?_
  refine l_nil ?_
  refine k_then ?_
  refine c_seq ?_
  refine c_seq ?_
  refine c_region _ rfl ?_
  refine l_q rfl (q_move rfl rfl) rfl rfl ?_
  refine l_q rfl (q_lenS rfl Try.underlying9 rfl) rfl rfl ?_
  refine l_q rfl (q_gtr rfl rfl rfl) rfl rfl ?_
  refine l_nil ?_
  refine k_then ?_
  refine Pre.caseB 7 rfl (fun h1 => ?_) (fun h1 => ?_)
  · try simp only [decide_eq_true_eq, decide_eq_false_iff_not, Bool.not_eq_true', Bool.not_eq_false'] at h1
    have hno : ¬ s.size ≤ 8 := by omega
    refine c_true rfl ?_
    refine c_seq ?_
    refine c_region _ rfl ?_
    refine l_q rfl (q_build (kc 0 z8) rfl rfl (fun w => by kernel_rfl)) rfl rfl ?_
    refine l_e rfl ?_
    refine e_storeAgg rfl rfl Try.sizeOf24 rfl rfl rfl kc_one (Nat.le_of_ble_eq_true rfl) ?_
    refine cells_eq (kc_all z8_len z8_len) ?_
    refine l_q rfl (q_assign rfl rfl) rfl rfl ?_
    refine l_nil ?_
    refine k_then ?_
    refine c_ret ?_
    refine k_then_ret ?_
    refine r_res2 rfl (res_cellA rfl Try.isAgg24 Try.sizeOf24 (fun _ h => h.at 0 rfl) (kc_len z8_len)) (show Sep.look _ _ = some _ from rfl) ?_
    exact fun _ h => ⟨(), by rw [dif_neg hno], trivial, h.nothing⟩
  · try simp only [decide_eq_true_eq, decide_eq_false_iff_not, Bool.not_eq_true', Bool.not_eq_false'] at h1
    have hyes : s.size ≤ 8 := by omega
    have hbl := byt_len s
    refine c_false rfl ?_
    refine c_skip ?_
    refine k_then ?_
    refine c_seq ?_
    refine c_region _ rfl ?_
    refine l_q rfl (q_move rfl rfl) rfl rfl ?_
    refine l_q rfl (q_lenS rfl Try.underlying9 rfl) rfl rfl ?_
    refine l_q rfl (q_build (kc (s.size : Int) z8) rfl rfl (fun w => by kernel_rfl)) rfl rfl ?_
    refine l_e rfl ?_
    refine e_alloc rfl rfl rfl Try.zeroValue24 ?_
    intro bk
    refine cells_eq (show _ = kc 0 z8 from rfl) ?_
    refine l_e rfl ?_
    refine e_storeAgg rfl rfl Try.sizeOf24 rfl rfl rfl kc_one (Nat.le_of_ble_eq_true rfl) ?_
    refine cells_eq (kc_all z8_len z8_len) ?_
    refine l_nil ?_
    refine k_then ?_
    refine c_seq ?_
    refine c_region _ rfl ?_
    refine l_q rfl (q_fieldAddr rfl Try.underlying24 rfl Try.sizeOf22 rfl rfl) rfl rfl ?_
    refine l_q rfl (q_sliceArr rfl Try.underlying22 Try.sizeOf5 rfl) rfl rfl ?_
    refine l_q rfl (q_move rfl rfl) rfl rfl ?_
    refine l_e rfl ?_
    refine e_copyS rfl rfl rfl Try.underlying51 Try.sizeOf5 rfl rfl (by omega) (by show 0 + 1 + s.size ≤ _; rw [kc_len z8_len]; omega) ?_
    refine cells_eq (cs' := (kof s hyes).c) ?_ ?_
    · have hput := kc_put (n := (s.size : Int)) (l := byt s) (by omega)
      unfold byt at hput
      rw [List.map_map] at hput
      refine hput.trans ?_
      show _ = kc ((byt s).length : Int) (byt s ++ List.replicate (8 - (byt s).length) 0)
      rw [hbl]; unfold byt; rw [List.length_map, Array.length_toList]; rfl
    refine l_nil ?_
    refine k_then ?_
    refine c_seq ?_
    refine c_region _ rfl ?_
    refine l_q rfl (q_loadCAgg ((kof s hyes).c) rfl Try.isAgg24 Try.sizeOf24 rfl (fun _ h => h.at 0 rfl) (kv_whole _) (Kv.c_len _)) rfl rfl ?_
    refine pull1 ?_
    refine l_e rfl ?_
    refine e_storeAgg rfl rfl Try.sizeOf24 rfl rfl (Kv.c_len _) (Kv.one _) (by rw [Kv.c_len, kc_len z8_len]; decide) ?_
    refine cells_eq (Sep.splice_all (by rw [Kv.c_len, kc_len z8_len])) ?_
    refine l_q rfl (q_assign rfl rfl) rfl rfl ?_
    refine l_nil ?_
    refine k_then ?_
    refine c_ret ?_
    refine r_res2 rfl (res_cellA rfl Try.isAgg24 Try.sizeOf24 (fun _ h => h.at 0 rfl) (Kv.c_len _)) (show Sep.look _ _ = some _ from rfl) ?_
    exact fun _ h => ⟨(), by rw [dif_pos hyes], trivial, h.nothing⟩
set_option maxRecDepth 100000 in
set_option maxHeartbeats 1000000 in
theorem text_spec (k : Kv 8) : Con Try.prog 15 [.agg k.c.toArray] (fun _ => True) [] (fun _ : Unit => .string (strOfNums (tx k))) (fun _ => True) (fun _ => []) := by
  intro w hE hH
  refine enter (n := 11) (vs := [.agg k.c.toArray]) (St w [] []) Try.func15 rfl rfl rfl (St.init hH) ?_
  refine c_seq ?_
  refine c_region _ rfl ?_
  refine l_e rfl ?_
  refine e_box rfl rfl rfl rfl ?_
  intro bk
  refine cells_eq (show _ = k.c from rfl) ?_
  refine l_q rfl (q_assign rfl rfl) rfl rfl ?_
  refine l_nil ?_
  refine k_then ?_
  refine c_seq ?_
  refine c_seq ?_
  refine c_region _ rfl ?_
  refine l_q rfl (q_loadCAgg (k.c) rfl Try.isAgg24 Try.sizeOf24 rfl (fun _ h => h.at 0 rfl) (kv_whole _) (Kv.c_len _)) rfl rfl ?_
  refine l_e rfl ?_
  refine e_call_00 (kcheck_spec k) rfl rfl rfl Try.call13 rfl (fun _ _ => trivial) ?_
  intro _ _
  refine l_q rfl (q_not rfl rfl) rfl rfl ?_
  refine l_nil ?_
  refine k_then ?_
  refine Pre.caseB 5 rfl (fun h1 => ?_) (fun h1 => ?_)
  · try simp only [Bool.not_eq_true', Bool.not_eq_false'] at h1
    have ht : tx k = [] := by unfold tx; rw [h1]; rfl
    refine c_true rfl ?_
    refine c_seq ?_
    refine c_region _ rfl ?_
    refine l_q rfl (q_assign rfl rfl) rfl rfl ?_
    refine l_nil ?_
    refine k_then ?_
    refine c_ret ?_
    refine k_then_ret ?_
    refine r_one rfl rfl ?_
    exact fun _ h => ⟨(), by rw [ht]; rfl, trivial, h.nothing⟩
  · try simp only [Bool.not_eq_true', Bool.not_eq_false'] at h1
    obtain ⟨m, hm, hm8, ht, htl, htb⟩ := kck_parts h1
    have hkl := k.len
    refine c_false rfl ?_
    refine c_skip ?_
    refine k_then ?_
    refine c_seq ?_
    refine c_region _ rfl ?_
    refine l_q rfl (q_fieldAddr rfl Try.underlying24 rfl Try.sizeOf22 rfl rfl) rfl rfl ?_
    refine l_q rfl (q_fieldAddr rfl Try.underlying24 rfl Try.sizeOf3 rfl rfl) rfl rfl ?_
    refine l_q rfl (q_loadC rfl Try.isAgg3 rfl (fun _ h => h.at 0 rfl) rfl) rfl rfl ?_
    refine l_q rfl (q_sliceArrH m rfl Try.underlying22 Try.sizeOf5 rfl rfl hm (by omega)) rfl rfl ?_
    refine l_q rfl (q_b2s (l := k.b.take m) rfl Try.underlying51 Try.underlying5 Try.underlying9 rfl (fun _ h => rd_part (h.at 0 rfl) (encI .u8) (k.b.take m) (by rw [List.length_take]; omega) (by omega) (kc_part (by omega)))) rfl rfl ?_
    refine l_q rfl (q_assign rfl rfl) rfl rfl ?_
    refine l_nil ?_
    refine k_then ?_
    refine c_ret ?_
    refine r_one rfl rfl ?_
    exact fun _ h => ⟨(), by rw [ht], trivial, h.nothing⟩
set_option maxRecDepth 100000 in
set_option maxHeartbeats 1000000 in
theorem rtext_spec (k : Kv 8) : Con Try.prog 16 [.agg k.c.toArray] (fun _ => True) [] (fun _ : Unit => .string (strOfNums (tx k))) (fun _ => True) (fun _ => []) := by
  intro w hE hH
  refine enter (n := 11) (vs := [.agg k.c.toArray]) (St w [] []) Try.func16 rfl rfl rfl (St.init hH) ?_
  refine c_seq ?_
  refine c_region _ rfl ?_
  refine l_e rfl ?_
  refine e_box rfl rfl rfl rfl ?_
  intro bk
  refine cells_eq (show _ = k.c from rfl) ?_
  refine l_q rfl (q_assign rfl rfl) rfl rfl ?_
  refine l_nil ?_
  refine k_then ?_
  refine c_seq ?_
  refine c_seq ?_
  refine c_region _ rfl ?_
  refine l_q rfl (q_loadCAgg (k.c) rfl Try.isAgg24 Try.sizeOf24 rfl (fun _ h => h.at 0 rfl) (kv_whole _) (Kv.c_len _)) rfl rfl ?_
  refine l_e rfl ?_
  refine e_call_00 (rkcheck_spec k) rfl rfl rfl Try.call14 rfl (fun _ _ => trivial) ?_
  intro _ _
  refine l_q rfl (q_not rfl rfl) rfl rfl ?_
  refine l_nil ?_
  refine k_then ?_
  refine Pre.caseB 5 rfl (fun h1 => ?_) (fun h1 => ?_)
  · try simp only [Bool.not_eq_true', Bool.not_eq_false'] at h1
    have ht : tx k = [] := by unfold tx; rw [h1]; rfl
    refine c_true rfl ?_
    refine c_seq ?_
    refine c_region _ rfl ?_
    refine l_q rfl (q_assign rfl rfl) rfl rfl ?_
    refine l_nil ?_
    refine k_then ?_
    refine c_ret ?_
    refine k_then_ret ?_
    refine r_one rfl rfl ?_
    exact fun _ h => ⟨(), by rw [ht]; rfl, trivial, h.nothing⟩
  · try simp only [Bool.not_eq_true', Bool.not_eq_false'] at h1
    obtain ⟨m, hm, hm8, ht, htl, htb⟩ := kck_parts h1
    have hkl := k.len
    refine c_false rfl ?_
    refine c_skip ?_
    refine k_then ?_
    refine c_seq ?_
    refine c_region _ rfl ?_
    refine l_q rfl (q_fieldAddr rfl Try.underlying24 rfl Try.sizeOf22 rfl rfl) rfl rfl ?_
    refine l_q rfl (q_fieldAddr rfl Try.underlying24 rfl Try.sizeOf3 rfl rfl) rfl rfl ?_
    refine l_q rfl (q_loadC rfl Try.isAgg3 rfl (fun _ h => h.at 0 rfl) rfl) rfl rfl ?_
    refine l_q rfl (q_sliceArrH m rfl Try.underlying22 Try.sizeOf5 rfl rfl hm (by omega)) rfl rfl ?_
    refine l_q rfl (q_b2s (l := k.b.take m) rfl Try.underlying51 Try.underlying5 Try.underlying9 rfl (fun _ h => rd_part (h.at 0 rfl) (encI .u8) (k.b.take m) (by rw [List.length_take]; omega) (by omega) (kc_part (by omega)))) rfl rfl ?_
    refine l_q rfl (q_assign rfl rfl) rfl rfl ?_
    refine l_nil ?_
    refine k_then ?_
    refine c_ret ?_
    refine r_one rfl rfl ?_
    exact fun _ h => ⟨(), by rw [ht], trivial, h.nothing⟩
theorem cmp_find : Extern.find Try.f41 = some Extern.BytealgCompare.compare := by kernel_rfl
theorem e_cmpS {P : Program} {n : Nat} {L : Env} {X : World → Prop} {o : Oper} {Q : Exit → Act → World → Prop} {K : Act → World → Prop} {f : FuncId} {fn : Func} {x y : Operand} {ts : Array TypeId} {d : Nat} {a b : ByteArray} (ho : o.op = .call ⟨.value (.func f), [x, y].toArray, ts⟩) (hd : o.dst = some d) (hnn : d.blt n = true) (hfn : P.funcs[f]? = some fn) (hb : fn.body.isNone = true) (hname : (fn.name == "runtime.NumGoroutine") = false) (hn : Extern.findNext fn = none) (he : Extern.find fn = some Extern.BytealgCompare.compare)
    (hx : ev L x = some (.string a)) (hy : ev L y = some (.string b)) (h : Pre n ((d, .int .i64 (Lib.compareBytes a.data.toList b.data.toList)) :: L) X K) : EOp P n L X o Q K :=
  EOp.val (β := Unit) (fun _ => .int .i64 (Lib.compareBytes a.data.toList b.data.toList)) (fun _ => True) (fun _ => X) hd hnn (fun ac w kn hX => by
    have hc := run_callFunc_extern hfn hname hb hn he #[.string a, .string b] w
    rw [Lib.run_compareString a b w] at hc
    simp only [Result.andThen_ok] at hc
    have hargs : ([x, y].toArray.map ac.eval) = #[.string a, .string b] := by simp [kn.eval hx, kn.eval hy]
    have h0 : ∀ us : Array Value, (#[] ++ us ++ #[]) = us := fun us => by simp
    exact ⟨(), w, by simp only [execOp, ho, resolve, Act.eval, Deferred.ofValue, Sem.run_bind, Sem.run_pure, Result.andThen_ok, invoke, hargs, h0, hc], trivial, hX⟩) (fun _ _ => h)
set_option maxRecDepth 100000 in
set_option maxHeartbeats 1000000 in
theorem bcmp_spec (a b : ByteArray) : Con Try.prog 30 [.string a, .string b] (fun _ => True) [] (fun _ : Unit => .int .i64 (Lib.compareBytes a.data.toList b.data.toList)) (fun _ => True) (fun _ => []) := by
  intro w hE hH
  refine enter (n := 8) (vs := [.string a, .string b]) (St w [] []) Try.func30 rfl rfl rfl (St.init hH) ?_
  refine c_seq ?_
  refine c_region _ rfl ?_
  refine l_q rfl (q_assign rfl rfl) rfl rfl ?_
  refine l_nil ?_
  refine k_then ?_
  refine c_seq ?_
  refine c_region _ rfl ?_
  refine l_q rfl (q_move rfl rfl) rfl rfl ?_
  refine l_q rfl (q_move rfl rfl) rfl rfl ?_
  refine l_e rfl ?_
  refine e_cmpS rfl rfl rfl Try.func41 rfl (by kernel_rfl) rfl cmp_find rfl rfl ?_
  refine l_q rfl (q_assign rfl rfl) rfl rfl ?_
  refine l_nil ?_
  refine k_then ?_
  refine c_ret ?_
  refine r_one rfl rfl ?_
  exact fun _ h => ⟨(), rfl, trivial, h⟩
set_option maxRecDepth 100000 in
set_option maxHeartbeats 1000000 in
theorem scmp_spec (a b : ByteArray) : Con Try.prog 27 [.string a, .string b] (fun _ => True) [] (fun _ : Unit => .int .i64 (Lib.compareBytes a.data.toList b.data.toList)) (fun _ => True) (fun _ => []) := by
  intro w hE hH
  refine enter (n := 8) (vs := [.string a, .string b]) (St w [] []) Try.func27 rfl rfl rfl (St.init hH) ?_
  refine c_seq ?_
  refine c_region _ rfl ?_
  refine l_q rfl (q_assign rfl rfl) rfl rfl ?_
  refine l_nil ?_
  refine k_then ?_
  refine c_seq ?_
  refine c_region _ rfl ?_
  refine l_q rfl (q_move rfl rfl) rfl rfl ?_
  refine l_q rfl (q_move rfl rfl) rfl rfl ?_
  refine l_e rfl ?_
  refine e_call_00 (bcmp_spec a b) rfl rfl rfl Try.call30 rfl (fun _ _ => trivial) ?_
  intro _ _
  refine l_q rfl (q_assign rfl rfl) rfl rfl ?_
  refine l_nil ?_
  refine k_then ?_
  refine c_ret ?_
  refine r_one rfl rfl ?_
  exact fun _ h => ⟨(), rfl, trivial, h⟩
set_option maxRecDepth 100000 in
set_option maxHeartbeats 1000000 in
theorem cmp_spec (a b : Kv 8) : Con Try.prog 24 [.agg a.c.toArray, .agg b.c.toArray] (fun _ => True) [] (fun _ : Unit => .int .i64 (kcmp a b)) (fun _ => True) (fun _ => []) := by
  intro w hE hH
  have hc : kcmp a b = Lib.compareBytes (strOfNums (tx a)).data.toList (strOfNums (tx b)).data.toList := (lex_cmp (tx a) (tx b) (fun x hx => tx_byte hx) (fun x hx => tx_byte hx)).symm
  refine enter (n := 10) (vs := [.agg a.c.toArray, .agg b.c.toArray]) (St w [] []) Try.func24 rfl rfl rfl (St.init hH) ?_
  refine c_seq ?_
  refine c_region _ rfl ?_
  refine l_e rfl ?_
  refine e_box rfl rfl rfl rfl ?_
  intro ba
  refine cells_eq (show _ = a.c from rfl) ?_
  refine l_e rfl ?_
  refine e_box rfl rfl rfl rfl ?_
  intro bb
  refine cells_eq (show _ = b.c from rfl) ?_
  refine l_q rfl (q_assign rfl rfl) rfl rfl ?_
  refine l_nil ?_
  refine k_then ?_
  refine c_seq ?_
  refine c_draw [(0, some true), (2, some true), (1, some false), (3, some false), (4, some false), (5, some true)] [] [(_, some true), (_, some true), (_, some false), (_, some false), (_, some false), (_, some true)] (fun w2 => (cellsE ba 24 a.c).at w2 ∧ (cellsE bb 24 b.c).at w2) (blind_then blind_body) rfl (by kernel_rfl) (by kernel_rfl) rfl rfl rfl (by kernel_rfl) St.drawn (fun _ h => ⟨h.at 1 rfl, h.at 0 rfl⟩) ?_
  refine d_q rfl (q_loadCAgg (a.c) rfl Try.isAgg24 Try.sizeOf24 rfl (fun _ h => h.1) (kv_whole _) (Kv.c_len _)) rfl rfl ?_
  refine d_q rfl (q_loadCAgg (b.c) rfl Try.isAgg24 Try.sizeOf24 rfl (fun _ h => h.2) (kv_whole _) (Kv.c_len _)) rfl rfl ?_
  refine d_e rfl ?_
  refine e_call_00 (text_spec a) rfl rfl rfl Try.call15 rfl (fun _ _ => trivial) ?_
  intro _ _
  refine d_held (fun _ h => ⟨h.at 1 rfl, h.at 0 rfl⟩) ?_
  refine d_e rfl ?_
  refine e_call_00 (text_spec b) rfl rfl rfl Try.call15 rfl (fun _ _ => trivial) ?_
  intro _ _
  refine d_held (fun _ h => ⟨h.at 1 rfl, h.at 0 rfl⟩) ?_
  refine d_e rfl ?_
  refine e_call_00 (scmp_spec _ _) rfl rfl rfl Try.call27 rfl (fun _ _ => trivial) ?_
  intro _ _
  refine d_held (fun _ h => ⟨h.at 1 rfl, h.at 0 rfl⟩) ?_
  refine d_q rfl (q_assign rfl rfl) rfl rfl ?_
  refine d_nil ?_
  refine k_then ?_
  refine c_ret ?_
  refine r_one rfl rfl ?_
  exact fun _ h => ⟨(), by rw [hc], trivial, h.nothing⟩
set_option maxRecDepth 100000 in
set_option maxHeartbeats 1000000 in
theorem rcmp_spec (a b : Kv 8) (ha : kck a = true) (hb : kck b = true) : Con Try.prog 25 [.agg a.c.toArray, .agg b.c.toArray] (fun _ => True) [] (fun _ : Unit => .int .i64 (kcmp a b)) (fun _ => True) (fun _ => []) := by
  intro w hE hH
  obtain ⟨m, hm, hm8, hta, htal, _⟩ := kck_parts ha
  obtain ⟨q, hq, hq8, htb, htbl, _⟩ := kck_parts hb
  refine enter (n := 51) (vs := [.agg a.c.toArray, .agg b.c.toArray]) (St w [] []) Try.func25 rfl rfl rfl (St.init hH) ?_
  refine c_seq ?_
  refine c_region _ rfl ?_
  refine l_e rfl ?_
  refine e_box rfl rfl rfl rfl ?_
  intro ba
  refine cells_eq (show _ = a.c from rfl) ?_
  refine l_e rfl ?_
  refine e_box rfl rfl rfl rfl ?_
  intro bb
  refine cells_eq (show _ = b.c from rfl) ?_
  refine l_q rfl (q_assign rfl rfl) rfl rfl ?_
  refine l_nil ?_
  refine k_then ?_
  refine c_seq ?_
  refine c_seq ?_
  refine c_region _ rfl ?_
  refine l_q rfl (q_assign rfl rfl) rfl rfl ?_
  refine l_nil ?_
  refine k_then ?_
  refine c_block ?_
  refine c_loop1 (fun (i : Nat) => [(2, .pointer (some ⟨ba, 0, none⟩)), (3, .pointer (some ⟨bb, 0, none⟩)), (5, .int .i64 (i : Int))]) (fun (i : Nat) => St w [] [cellsE bb 24 b.c, cellsE ba 24 a.c]) (fun (i : Nat) => i ≤ 8 ∧ lexI (tx a) (tx b) = lexI ((tx a).drop i) ((tx b).drop i)) (fun (i : Nat) => 8 - i) (0) ⟨Nat.zero_le _, rfl⟩ (Sub.cons rfl (Sub.cons rfl (Sub.cons rfl (Sub.nil)))) (fun _ h => h) ?_
  intro i hp
  refine c_seq ?_
  refine c_seq ?_
  obtain ⟨hi, he⟩ := hp
  obtain ⟨e1, e2, e3⟩ := cmp_end htal htbl he
  refine c_region _ rfl ?_
  refine l_q rfl (q_move rfl rfl) rfl rfl ?_
  refine l_q rfl (q_lss rfl rfl rfl) rfl rfl ?_
  refine l_nil ?_
  refine k_then ?_
  refine Pre.caseB 7 rfl (fun h0 => ?_) (fun h0 => ?_)
  · try simp only [decide_eq_true_eq, decide_eq_false_iff_not, Bool.not_eq_true', Bool.not_eq_false'] at h0
    refine c_true rfl ?_
    refine c_skip ?_
    refine k_then ?_
    refine c_seq ?_
    refine c_block ?_
    refine c_block ?_
    refine c_seq ?_
    refine c_region _ rfl ?_
    refine l_q rfl (q_move rfl rfl) rfl rfl ?_
    refine l_q rfl (q_fieldAddr rfl Try.underlying24 rfl Try.sizeOf3 rfl rfl) rfl rfl ?_
    refine l_q rfl (q_loadC rfl Try.isAgg3 rfl (fun _ h => h.at 1 rfl) rfl) rfl rfl ?_
    refine l_q rfl (q_geq rfl rfl rfl) rfl rfl ?_
    refine l_q rfl (q_move rfl rfl) rfl rfl ?_
    refine Pre.caseB 15 rfl (fun h1 => ?_) (fun h1 => ?_)
    · try simp only [decide_eq_true_eq, decide_eq_false_iff_not, Bool.not_eq_true', Bool.not_eq_false'] at h1
      refine l_q rfl (q_move rfl rfl) rfl rfl ?_
      refine l_q rfl (q_fieldAddr rfl Try.underlying24 rfl Try.sizeOf3 rfl rfl) rfl rfl ?_
      refine l_q rfl (q_loadC rfl Try.isAgg3 rfl (fun _ h => h.at 0 rfl) rfl) rfl rfl ?_
      refine l_q rfl (q_geq rfl rfl rfl) rfl rfl ?_
      refine l_q rfl (q_pick_t rfl rfl rfl) rfl rfl ?_
      refine l_q rfl (q_assign rfl rfl) rfl rfl ?_
      refine l_nil ?_
      refine k_then ?_
      refine Pre.caseB 10 rfl (fun h2 => ?_) (fun h2 => ?_)
      · try simp only [decide_eq_true_eq, decide_eq_false_iff_not, Bool.not_eq_true', Bool.not_eq_false'] at h2
        refine c_true rfl ?_
        refine c_seq ?_
        refine c_region _ rfl ?_
        refine l_q rfl (q_assign rfl rfl) rfl rfl ?_
        refine l_nil ?_
        refine k_then ?_
        refine c_ret ?_
        refine k_block_ret ?_
        refine k_block_ret ?_
        refine k_then_ret ?_
        refine k_then_ret ?_
        refine k_block_ret ?_
        refine k_then_ret ?_
        refine r_one rfl rfl ?_
        exact fun _ h => ⟨(), congrArg (fun z => Ending.returned (Value.int .i64 z)) (by first | exact (e1 (by omega) (by omega)).symm | exact (e2 (by omega) (by omega)).symm | exact (e3 (by omega) (by omega)).symm | (unfold kcmp; rw [cmp_step hta htb hm8 hq8 (by omega) (by omega) he, if_pos (by omega)]) | (unfold kcmp; rw [cmp_step hta htb hm8 hq8 (by omega) (by omega) he, if_neg (by omega), if_pos (by omega)])), trivial, h.nothing⟩
      · try simp only [decide_eq_true_eq, decide_eq_false_iff_not, Bool.not_eq_true', Bool.not_eq_false'] at h2
        refine c_false rfl ?_
        refine c_seq ?_
        refine c_region _ rfl ?_
        refine l_q rfl (q_move rfl rfl) rfl rfl ?_
        refine l_q rfl (q_fieldAddr rfl Try.underlying24 rfl Try.sizeOf3 rfl rfl) rfl rfl ?_
        refine l_q rfl (q_loadC rfl Try.isAgg3 rfl (fun _ h => h.at 1 rfl) rfl) rfl rfl ?_
        refine l_q rfl (q_geq rfl rfl rfl) rfl rfl ?_
        refine l_q rfl (q_assign rfl rfl) rfl rfl ?_
        refine l_nil ?_
        refine k_then ?_
        refine Pre.caseB 21 rfl (fun h3 => ?_) (fun h3 => ?_)
        · try simp only [decide_eq_true_eq, decide_eq_false_iff_not, Bool.not_eq_true', Bool.not_eq_false'] at h3
          refine c_true rfl ?_
          refine c_seq ?_
          refine c_region _ rfl ?_
          refine l_q rfl (q_assign rfl rfl) rfl rfl ?_
          refine l_nil ?_
          refine k_then ?_
          refine c_ret ?_
          refine k_block_ret ?_
          refine k_block_ret ?_
          refine k_then_ret ?_
          refine k_then_ret ?_
          refine k_block_ret ?_
          refine k_then_ret ?_
          refine r_one rfl rfl ?_
          exact fun _ h => ⟨(), congrArg (fun z => Ending.returned (Value.int .i64 z)) (by first | exact (e1 (by omega) (by omega)).symm | exact (e2 (by omega) (by omega)).symm | exact (e3 (by omega) (by omega)).symm | (unfold kcmp; rw [cmp_step hta htb hm8 hq8 (by omega) (by omega) he, if_pos (by omega)]) | (unfold kcmp; rw [cmp_step hta htb hm8 hq8 (by omega) (by omega) he, if_neg (by omega), if_pos (by omega)])), trivial, h.nothing⟩
        · try simp only [decide_eq_true_eq, decide_eq_false_iff_not, Bool.not_eq_true', Bool.not_eq_false'] at h3
          refine c_false rfl ?_
          refine c_seq ?_
          refine c_region _ rfl ?_
          refine l_q rfl (q_move rfl rfl) rfl rfl ?_
          refine l_q rfl (q_fieldAddr rfl Try.underlying24 rfl Try.sizeOf3 rfl rfl) rfl rfl ?_
          refine l_q rfl (q_loadC rfl Try.isAgg3 rfl (fun _ h => h.at 0 rfl) rfl) rfl rfl ?_
          refine l_q rfl (q_geq rfl rfl rfl) rfl rfl ?_
          refine l_q rfl (q_assign rfl rfl) rfl rfl ?_
          refine l_nil ?_
          refine k_then ?_
          refine Pre.caseB 26 rfl (fun h4 => ?_) (fun h4 => ?_)
          · try simp only [decide_eq_true_eq, decide_eq_false_iff_not, Bool.not_eq_true', Bool.not_eq_false'] at h4
            refine c_true rfl ?_
            refine c_seq ?_
            refine c_region _ rfl ?_
            refine l_q rfl (q_assign rfl rfl) rfl rfl ?_
            refine l_nil ?_
            refine k_then ?_
            refine c_ret ?_
            refine k_block_ret ?_
            refine k_block_ret ?_
            refine k_then_ret ?_
            refine k_then_ret ?_
            refine k_block_ret ?_
            refine k_then_ret ?_
            refine r_one rfl rfl ?_
            exact fun _ h => ⟨(), congrArg (fun z => Ending.returned (Value.int .i64 z)) (by first | exact (e1 (by omega) (by omega)).symm | exact (e2 (by omega) (by omega)).symm | exact (e3 (by omega) (by omega)).symm | (unfold kcmp; rw [cmp_step hta htb hm8 hq8 (by omega) (by omega) he, if_pos (by omega)]) | (unfold kcmp; rw [cmp_step hta htb hm8 hq8 (by omega) (by omega) he, if_neg (by omega), if_pos (by omega)])), trivial, h.nothing⟩
          · try simp only [decide_eq_true_eq, decide_eq_false_iff_not, Bool.not_eq_true', Bool.not_eq_false'] at h4
            refine c_false rfl ?_
            refine c_seq ?_
            refine c_draw [(0, some true), (1, some true), (2, some true), (3, some true), (4, some true), (5, some true), (6, some true), (7, some true), (8, some true), (9, some true)] [] [(_, some true), (_, some true), (_, some true), (_, some true), (_, some true), (_, some true), (_, some true), (_, some true), (_, some true), (_, some true)] _ (blind_then (blind_block (blind_block (blind_then (blind_then (blind_block (blind_then blind_body))))))) rfl (by kernel_rfl) (by kernel_rfl) rfl rfl rfl (by kernel_rfl) St.drawn (fun _ h => h) ?_
            refine d_q rfl (q_move rfl rfl) rfl rfl ?_
            refine d_q rfl (q_fieldAddr rfl Try.underlying24 rfl Try.sizeOf22 rfl rfl) rfl rfl ?_
            refine d_q rfl (q_indexArr i rfl Try.underlying22 Try.sizeOf5 rfl rfl rfl (by omega)) rfl rfl ?_
            refine d_q rfl (q_loadC rfl Try.isAgg5 rfl (fun _ h => h.at 1 rfl) (kc_get a.len (by omega))) rfl rfl ?_
            refine d_q rfl (q_move rfl rfl) rfl rfl ?_
            refine d_q rfl (q_fieldAddr rfl Try.underlying24 rfl Try.sizeOf22 rfl rfl) rfl rfl ?_
            refine d_q rfl (q_indexArr i rfl Try.underlying22 Try.sizeOf5 rfl rfl rfl (by omega)) rfl rfl ?_
            refine d_q rfl (q_loadC rfl Try.isAgg5 rfl (fun _ h => h.at 0 rfl) (kc_get b.len (by omega))) rfl rfl ?_
            refine d_q rfl (q_lss rfl rfl rfl) rfl rfl ?_
            refine d_q rfl (q_assign rfl rfl) rfl rfl ?_
            refine d_nil ?_
            refine k_then ?_
            refine Pre.caseB 31 rfl (fun h6 => ?_) (fun h6 => ?_)
            · try simp only [decide_eq_true_eq, decide_eq_false_iff_not, Bool.not_eq_true', Bool.not_eq_false'] at h6
              refine c_true rfl ?_
              refine c_seq ?_
              refine c_region _ rfl ?_
              refine l_q rfl (q_assign rfl rfl) rfl rfl ?_
              refine l_nil ?_
              refine k_then ?_
              refine c_ret ?_
              refine k_block_ret ?_
              refine k_block_ret ?_
              refine k_then_ret ?_
              refine k_then_ret ?_
              refine k_block_ret ?_
              refine k_then_ret ?_
              refine r_one rfl rfl ?_
              exact fun _ h => ⟨(), congrArg (fun z => Ending.returned (Value.int .i64 z)) (by first | exact (e1 (by omega) (by omega)).symm | exact (e2 (by omega) (by omega)).symm | exact (e3 (by omega) (by omega)).symm | (unfold kcmp; rw [cmp_step hta htb hm8 hq8 (by omega) (by omega) he, if_pos (by omega)]) | (unfold kcmp; rw [cmp_step hta htb hm8 hq8 (by omega) (by omega) he, if_neg (by omega), if_pos (by omega)])), trivial, h.nothing⟩
            · try simp only [decide_eq_true_eq, decide_eq_false_iff_not, Bool.not_eq_true', Bool.not_eq_false'] at h6
              refine c_false rfl ?_
              refine c_seq ?_
              refine c_draw [(0, some true), (1, some true), (2, some true), (3, some true), (4, some true), (5, some true), (6, some true), (7, some true), (8, some true), (9, some true)] [] [(_, some true), (_, some true), (_, some true), (_, some true), (_, some true), (_, some true), (_, some true), (_, some true), (_, some true), (_, some true)] _ (blind_then (blind_block (blind_block (blind_then (blind_then (blind_block (blind_then blind_body))))))) rfl (by kernel_rfl) (by kernel_rfl) rfl rfl rfl (by kernel_rfl) St.drawn (fun _ h => h) ?_
              refine d_q rfl (q_move rfl rfl) rfl rfl ?_
              refine d_q rfl (q_fieldAddr rfl Try.underlying24 rfl Try.sizeOf22 rfl rfl) rfl rfl ?_
              refine d_q rfl (q_indexArr i rfl Try.underlying22 Try.sizeOf5 rfl rfl rfl (by omega)) rfl rfl ?_
              refine d_q rfl (q_loadC rfl Try.isAgg5 rfl (fun _ h => h.at 1 rfl) (kc_get a.len (by omega))) rfl rfl ?_
              refine d_q rfl (q_move rfl rfl) rfl rfl ?_
              refine d_q rfl (q_fieldAddr rfl Try.underlying24 rfl Try.sizeOf22 rfl rfl) rfl rfl ?_
              refine d_q rfl (q_indexArr i rfl Try.underlying22 Try.sizeOf5 rfl rfl rfl (by omega)) rfl rfl ?_
              refine d_q rfl (q_loadC rfl Try.isAgg5 rfl (fun _ h => h.at 0 rfl) (kc_get b.len (by omega))) rfl rfl ?_
              refine d_q rfl (q_gtr rfl rfl rfl) rfl rfl ?_
              refine d_q rfl (q_assign rfl rfl) rfl rfl ?_
              refine d_nil ?_
              refine k_then ?_
              refine Pre.caseB 41 rfl (fun h8 => ?_) (fun h8 => ?_)
              · try simp only [decide_eq_true_eq, decide_eq_false_iff_not, Bool.not_eq_true', Bool.not_eq_false'] at h8
                refine c_true rfl ?_
                refine c_seq ?_
                refine c_region _ rfl ?_
                refine l_q rfl (q_assign rfl rfl) rfl rfl ?_
                refine l_nil ?_
                refine k_then ?_
                refine c_ret ?_
                refine k_block_ret ?_
                refine k_block_ret ?_
                refine k_then_ret ?_
                refine k_then_ret ?_
                refine k_block_ret ?_
                refine k_then_ret ?_
                refine r_one rfl rfl ?_
                exact fun _ h => ⟨(), congrArg (fun z => Ending.returned (Value.int .i64 z)) (by first | exact (e1 (by omega) (by omega)).symm | exact (e2 (by omega) (by omega)).symm | exact (e3 (by omega) (by omega)).symm | (unfold kcmp; rw [cmp_step hta htb hm8 hq8 (by omega) (by omega) he, if_pos (by omega)]) | (unfold kcmp; rw [cmp_step hta htb hm8 hq8 (by omega) (by omega) he, if_neg (by omega), if_pos (by omega)])), trivial, h.nothing⟩
              · try simp only [decide_eq_true_eq, decide_eq_false_iff_not, Bool.not_eq_true', Bool.not_eq_false'] at h8
                refine c_false rfl ?_
                refine c_skip ?_
                refine k_block ?_
                refine k_block ?_
                refine k_then ?_
                refine c_region _ rfl ?_
                refine l_q rfl (q_move rfl rfl) rfl rfl ?_
                refine l_q rfl (q_inc rfl rfl rfl (by omega)) rfl rfl ?_
                refine l_q rfl (q_assign rfl rfl) rfl rfl ?_
                refine l_nil ?_
                exact k_round (i + 1) (by omega) ⟨by omega, by rw [cmp_step hta htb hm8 hq8 (by omega) (by omega) he, if_neg (by omega), if_neg (by omega)]⟩ (Sub.cons rfl (Sub.cons rfl (Sub.cons rfl (Sub.nil)))) (fun _ h => h)
    · try simp only [decide_eq_true_eq, decide_eq_false_iff_not, Bool.not_eq_true', Bool.not_eq_false'] at h1
      refine l_not rfl rfl rfl ?_
      refine l_not rfl rfl rfl ?_
      refine l_not rfl rfl rfl ?_
      refine l_not rfl rfl rfl ?_
      refine l_q rfl (q_pick_f rfl rfl rfl) rfl rfl ?_
      refine l_q rfl (q_assign rfl rfl) rfl rfl ?_
      refine l_nil ?_
      refine k_then ?_
      refine c_false rfl ?_
      refine c_seq ?_
      refine c_region _ rfl ?_
      refine l_q rfl (q_move rfl rfl) rfl rfl ?_
      refine l_q rfl (q_fieldAddr rfl Try.underlying24 rfl Try.sizeOf3 rfl rfl) rfl rfl ?_
      refine l_q rfl (q_loadC rfl Try.isAgg3 rfl (fun _ h => h.at 1 rfl) rfl) rfl rfl ?_
      refine l_q rfl (q_geq rfl rfl rfl) rfl rfl ?_
      refine l_q rfl (q_assign rfl rfl) rfl rfl ?_
      refine l_nil ?_
      refine k_then ?_
      refine Pre.caseB 21 rfl (fun h9 => ?_) (fun h9 => ?_)
      · try simp only [decide_eq_true_eq, decide_eq_false_iff_not, Bool.not_eq_true', Bool.not_eq_false'] at h9
        refine c_true rfl ?_
        refine c_seq ?_
        refine c_region _ rfl ?_
        refine l_q rfl (q_assign rfl rfl) rfl rfl ?_
        refine l_nil ?_
        refine k_then ?_
        refine c_ret ?_
        refine k_block_ret ?_
        refine k_block_ret ?_
        refine k_then_ret ?_
        refine k_then_ret ?_
        refine k_block_ret ?_
        refine k_then_ret ?_
        refine r_one rfl rfl ?_
        exact fun _ h => ⟨(), congrArg (fun z => Ending.returned (Value.int .i64 z)) (by first | exact (e1 (by omega) (by omega)).symm | exact (e2 (by omega) (by omega)).symm | exact (e3 (by omega) (by omega)).symm | (unfold kcmp; rw [cmp_step hta htb hm8 hq8 (by omega) (by omega) he, if_pos (by omega)]) | (unfold kcmp; rw [cmp_step hta htb hm8 hq8 (by omega) (by omega) he, if_neg (by omega), if_pos (by omega)])), trivial, h.nothing⟩
      · try simp only [decide_eq_true_eq, decide_eq_false_iff_not, Bool.not_eq_true', Bool.not_eq_false'] at h9
        refine c_false rfl ?_
        refine c_seq ?_
        refine c_region _ rfl ?_
        refine l_q rfl (q_move rfl rfl) rfl rfl ?_
        refine l_q rfl (q_fieldAddr rfl Try.underlying24 rfl Try.sizeOf3 rfl rfl) rfl rfl ?_
        refine l_q rfl (q_loadC rfl Try.isAgg3 rfl (fun _ h => h.at 0 rfl) rfl) rfl rfl ?_
        refine l_q rfl (q_geq rfl rfl rfl) rfl rfl ?_
        refine l_q rfl (q_assign rfl rfl) rfl rfl ?_
        refine l_nil ?_
        refine k_then ?_
        refine Pre.caseB 26 rfl (fun h10 => ?_) (fun h10 => ?_)
        · try simp only [decide_eq_true_eq, decide_eq_false_iff_not, Bool.not_eq_true', Bool.not_eq_false'] at h10
          refine c_true rfl ?_
          refine c_seq ?_
          refine c_region _ rfl ?_
          refine l_q rfl (q_assign rfl rfl) rfl rfl ?_
          refine l_nil ?_
          refine k_then ?_
          refine c_ret ?_
          refine k_block_ret ?_
          refine k_block_ret ?_
          refine k_then_ret ?_
          refine k_then_ret ?_
          refine k_block_ret ?_
          refine k_then_ret ?_
          refine r_one rfl rfl ?_
          exact fun _ h => ⟨(), congrArg (fun z => Ending.returned (Value.int .i64 z)) (by first | exact (e1 (by omega) (by omega)).symm | exact (e2 (by omega) (by omega)).symm | exact (e3 (by omega) (by omega)).symm | (unfold kcmp; rw [cmp_step hta htb hm8 hq8 (by omega) (by omega) he, if_pos (by omega)]) | (unfold kcmp; rw [cmp_step hta htb hm8 hq8 (by omega) (by omega) he, if_neg (by omega), if_pos (by omega)])), trivial, h.nothing⟩
        · try simp only [decide_eq_true_eq, decide_eq_false_iff_not, Bool.not_eq_true', Bool.not_eq_false'] at h10
          refine c_false rfl ?_
          refine c_seq ?_
          refine c_draw [(0, some true), (1, some true), (2, some true), (3, some true), (4, some true), (5, some true), (6, some true), (7, some true), (8, some true), (9, some true)] [] [(_, some true), (_, some true), (_, some true), (_, some true), (_, some true), (_, some true), (_, some true), (_, some true), (_, some true), (_, some true)] _ (blind_then (blind_block (blind_block (blind_then (blind_then (blind_block (blind_then blind_body))))))) rfl (by kernel_rfl) (by kernel_rfl) rfl rfl rfl (by kernel_rfl) St.drawn (fun _ h => h) ?_
          refine d_q rfl (q_move rfl rfl) rfl rfl ?_
          refine d_q rfl (q_fieldAddr rfl Try.underlying24 rfl Try.sizeOf22 rfl rfl) rfl rfl ?_
          refine d_q rfl (q_indexArr i rfl Try.underlying22 Try.sizeOf5 rfl rfl rfl (by omega)) rfl rfl ?_
          refine d_q rfl (q_loadC rfl Try.isAgg5 rfl (fun _ h => h.at 1 rfl) (kc_get a.len (by omega))) rfl rfl ?_
          refine d_q rfl (q_move rfl rfl) rfl rfl ?_
          refine d_q rfl (q_fieldAddr rfl Try.underlying24 rfl Try.sizeOf22 rfl rfl) rfl rfl ?_
          refine d_q rfl (q_indexArr i rfl Try.underlying22 Try.sizeOf5 rfl rfl rfl (by omega)) rfl rfl ?_
          refine d_q rfl (q_loadC rfl Try.isAgg5 rfl (fun _ h => h.at 0 rfl) (kc_get b.len (by omega))) rfl rfl ?_
          refine d_q rfl (q_lss rfl rfl rfl) rfl rfl ?_
          refine d_q rfl (q_assign rfl rfl) rfl rfl ?_
          refine d_nil ?_
          refine k_then ?_
          refine Pre.caseB 31 rfl (fun h12 => ?_) (fun h12 => ?_)
          · try simp only [decide_eq_true_eq, decide_eq_false_iff_not, Bool.not_eq_true', Bool.not_eq_false'] at h12
            refine c_true rfl ?_
            refine c_seq ?_
            refine c_region _ rfl ?_
            refine l_q rfl (q_assign rfl rfl) rfl rfl ?_
            refine l_nil ?_
            refine k_then ?_
            refine c_ret ?_
            refine k_block_ret ?_
            refine k_block_ret ?_
            refine k_then_ret ?_
            refine k_then_ret ?_
            refine k_block_ret ?_
            refine k_then_ret ?_
            refine r_one rfl rfl ?_
            exact fun _ h => ⟨(), congrArg (fun z => Ending.returned (Value.int .i64 z)) (by first | exact (e1 (by omega) (by omega)).symm | exact (e2 (by omega) (by omega)).symm | exact (e3 (by omega) (by omega)).symm | (unfold kcmp; rw [cmp_step hta htb hm8 hq8 (by omega) (by omega) he, if_pos (by omega)]) | (unfold kcmp; rw [cmp_step hta htb hm8 hq8 (by omega) (by omega) he, if_neg (by omega), if_pos (by omega)])), trivial, h.nothing⟩
          · try simp only [decide_eq_true_eq, decide_eq_false_iff_not, Bool.not_eq_true', Bool.not_eq_false'] at h12
            refine c_false rfl ?_
            refine c_seq ?_
            refine c_draw [(0, some true), (1, some true), (2, some true), (3, some true), (4, some true), (5, some true), (6, some true), (7, some true), (8, some true), (9, some true)] [] [(_, some true), (_, some true), (_, some true), (_, some true), (_, some true), (_, some true), (_, some true), (_, some true), (_, some true), (_, some true)] _ (blind_then (blind_block (blind_block (blind_then (blind_then (blind_block (blind_then blind_body))))))) rfl (by kernel_rfl) (by kernel_rfl) rfl rfl rfl (by kernel_rfl) St.drawn (fun _ h => h) ?_
            refine d_q rfl (q_move rfl rfl) rfl rfl ?_
            refine d_q rfl (q_fieldAddr rfl Try.underlying24 rfl Try.sizeOf22 rfl rfl) rfl rfl ?_
            refine d_q rfl (q_indexArr i rfl Try.underlying22 Try.sizeOf5 rfl rfl rfl (by omega)) rfl rfl ?_
            refine d_q rfl (q_loadC rfl Try.isAgg5 rfl (fun _ h => h.at 1 rfl) (kc_get a.len (by omega))) rfl rfl ?_
            refine d_q rfl (q_move rfl rfl) rfl rfl ?_
            refine d_q rfl (q_fieldAddr rfl Try.underlying24 rfl Try.sizeOf22 rfl rfl) rfl rfl ?_
            refine d_q rfl (q_indexArr i rfl Try.underlying22 Try.sizeOf5 rfl rfl rfl (by omega)) rfl rfl ?_
            refine d_q rfl (q_loadC rfl Try.isAgg5 rfl (fun _ h => h.at 0 rfl) (kc_get b.len (by omega))) rfl rfl ?_
            refine d_q rfl (q_gtr rfl rfl rfl) rfl rfl ?_
            refine d_q rfl (q_assign rfl rfl) rfl rfl ?_
            refine d_nil ?_
            refine k_then ?_
            refine Pre.caseB 41 rfl (fun h14 => ?_) (fun h14 => ?_)
            · try simp only [decide_eq_true_eq, decide_eq_false_iff_not, Bool.not_eq_true', Bool.not_eq_false'] at h14
              refine c_true rfl ?_
              refine c_seq ?_
              refine c_region _ rfl ?_
              refine l_q rfl (q_assign rfl rfl) rfl rfl ?_
              refine l_nil ?_
              refine k_then ?_
              refine c_ret ?_
              refine k_block_ret ?_
              refine k_block_ret ?_
              refine k_then_ret ?_
              refine k_then_ret ?_
              refine k_block_ret ?_
              refine k_then_ret ?_
              refine r_one rfl rfl ?_
              exact fun _ h => ⟨(), congrArg (fun z => Ending.returned (Value.int .i64 z)) (by first | exact (e1 (by omega) (by omega)).symm | exact (e2 (by omega) (by omega)).symm | exact (e3 (by omega) (by omega)).symm | (unfold kcmp; rw [cmp_step hta htb hm8 hq8 (by omega) (by omega) he, if_pos (by omega)]) | (unfold kcmp; rw [cmp_step hta htb hm8 hq8 (by omega) (by omega) he, if_neg (by omega), if_pos (by omega)])), trivial, h.nothing⟩
            · try simp only [decide_eq_true_eq, decide_eq_false_iff_not, Bool.not_eq_true', Bool.not_eq_false'] at h14
              refine c_false rfl ?_
              refine c_skip ?_
              refine k_block ?_
              refine k_block ?_
              refine k_then ?_
              refine c_region _ rfl ?_
              refine l_q rfl (q_move rfl rfl) rfl rfl ?_
              refine l_q rfl (q_inc rfl rfl rfl (by omega)) rfl rfl ?_
              refine l_q rfl (q_assign rfl rfl) rfl rfl ?_
              refine l_nil ?_
              exact k_round (i + 1) (by omega) ⟨by omega, by rw [cmp_step hta htb hm8 hq8 (by omega) (by omega) he, if_neg (by omega), if_neg (by omega)]⟩ (Sub.cons rfl (Sub.cons rfl (Sub.cons rfl (Sub.nil)))) (fun _ h => h)
  · try simp only [decide_eq_true_eq, decide_eq_false_iff_not, Bool.not_eq_true', Bool.not_eq_false'] at h0
    refine c_false rfl ?_
    refine c_exit ?_
    refine k_then_exit ?_
    refine k_then_exit ?_
    refine k_block_exit ?_
    refine k_then ?_
    refine c_seq ?_
    refine c_region _ rfl ?_
    refine l_q rfl (q_assign rfl rfl) rfl rfl ?_
    refine l_nil ?_
    refine k_then ?_
    refine c_ret ?_
    refine r_one rfl rfl ?_
    exact fun _ h => ⟨(), congrArg (fun z => Ending.returned (Value.int .i64 z)) (by first | exact (e1 (by omega) (by omega)).symm), trivial, h.nothing⟩
theorem rset {l : List Int} {p : Nat} {x : Int} (hp : p < 8) (h : l.length = 8) : (l.take (p + 1) ++ List.replicate (8 - (p + 1)) 0).set p x = l.take p ++ x :: List.replicate (7 - p) 0 := by
  have e : l.take (p + 1) = l.take p ++ [l.getD p 0] := by
    rw [List.take_add_one, List.getElem?_eq_getElem (by omega)]
    simp [List.getD_eq_getElem?_getD, show p < l.length by omega]
  rw [e, List.append_assoc, List.set_append_right _ _ (by simp; omega)]
  simp [h, show min p 8 = p by omega]
theorem rzero {l : List Int} {p : Nat} (hp : p < 8) (h : l.length = 8) : (l.take (p + 1) ++ List.replicate (8 - (p + 1)) 0).set p 0 = l.take p ++ List.replicate (8 - p) 0 := by
  rw [rset hp h, show 8 - p = (7 - p) + 1 from by omega, List.replicate_succ]
set_option maxRecDepth 100000 in
set_option maxHeartbeats 1000000 in
theorem next_spec (a : Kv 8) (ha : kck a = true) : Con Try.prog 22 [.agg a.c.toArray] (fun _ => True) [] (fun z : Kv 8 × Bool => .tuple #[.agg z.1.c.toArray, .bool z.2]) (NextOf a) (fun _ => []) := by
  intro w hE hH
  obtain ⟨m, hm, hm8, hta, htal, htb⟩ := kck_parts ha
  refine enter (n := 44) (vs := [.agg a.c.toArray]) (St w [] []) Try.func22 rfl rfl rfl (St.init hH) ?_
  refine c_seq ?_
  refine c_region _ rfl ?_
  refine l_e rfl ?_
  refine e_box rfl rfl rfl rfl ?_
  intro bk
  refine cells_eq (show _ = a.c from rfl) ?_
  refine l_e rfl ?_
  refine e_alloc rfl rfl rfl Try.zeroValue24 ?_
  intro br
  refine cells_eq (show _ = kc 0 z8 from rfl) ?_
  refine l_q rfl (q_assign rfl rfl) rfl rfl ?_
  refine l_nil ?_
  refine k_then ?_
  refine c_seq ?_
  refine c_seq ?_
  refine c_region _ rfl ?_
  refine l_q rfl (q_loadCAgg (a.c) rfl Try.isAgg24 Try.sizeOf24 rfl (fun _ h => h.at 1 rfl) (kv_whole _) (Kv.c_len _)) rfl rfl ?_
  refine l_e rfl ?_
  refine e_call_00 (kcheck_spec a) rfl rfl rfl Try.call13 rfl (fun _ _ => trivial) ?_
  intro _ _
  refine l_q rfl (q_not rfl rfl) rfl rfl ?_
  refine l_nil ?_
  refine k_then ?_
  refine Pre.setB (t := 7) (c := false) rfl (by rw [ha]; rfl) ?_
  refine c_false rfl ?_
  refine c_skip ?_
  refine k_then ?_
  refine c_seq ?_
  refine c_seq ?_
  refine c_region _ rfl ?_
  refine l_q rfl (q_fieldAddr rfl Try.underlying24 rfl Try.sizeOf3 rfl rfl) rfl rfl ?_
  refine l_q rfl (q_loadC rfl Try.isAgg3 rfl (fun _ h => h.at 1 rfl) rfl) rfl rfl ?_
  refine l_q rfl (q_lss rfl rfl rfl) rfl rfl ?_
  refine l_nil ?_
  refine k_then ?_
  refine Pre.caseB 11 rfl (fun h1 => ?_) (fun h1 => ?_)
  · try simp only [decide_eq_true_eq, decide_eq_false_iff_not, Bool.not_eq_true', Bool.not_eq_false'] at h1
    obtain ⟨z, hz1, hz2, hz3⟩ := next_lt ha hm (by omega)
    refine c_true rfl ?_
    refine c_seq ?_
    refine c_region _ rfl ?_
    refine l_q rfl (q_fieldAddr rfl Try.underlying24 rfl Try.sizeOf3 rfl rfl) rfl rfl ?_
    refine l_q rfl (q_loadC rfl Try.isAgg3 rfl (fun _ h => h.at 1 rfl) rfl) rfl rfl ?_
    refine l_q rfl (q_add64 rfl rfl rfl (by omega)) rfl rfl ?_
    refine l_q rfl (q_fieldAddr rfl Try.underlying24 rfl Try.sizeOf3 rfl rfl) rfl rfl ?_
    refine pull1 ?_
    refine l_e rfl ?_
    refine e_store rfl rfl Try.sizeOf3 rfl rfl rfl (by rw [Kv.c_len]; decide) ?_
    refine cells_eq (show _ = z.c from hz3.symm) ?_
    refine l_nil ?_
    refine k_then ?_
    refine c_seq ?_
    refine c_region _ rfl ?_
    refine l_q rfl (q_loadCAgg (z.c) rfl Try.isAgg24 Try.sizeOf24 rfl (fun _ h => h.at 0 rfl) (kv_whole _) (Kv.c_len _)) rfl rfl ?_
    refine pull1 ?_
    refine l_e rfl ?_
    refine e_storeAgg rfl rfl Try.sizeOf24 rfl rfl (Kv.c_len _) (Kv.one _) (by rw [Kv.c_len, kc_len z8_len]; decide) ?_
    refine cells_eq (Sep.splice_all (by rw [Kv.c_len, kc_len z8_len])) ?_
    refine l_q rfl (q_assign rfl rfl) rfl rfl ?_
    refine l_nil ?_
    refine k_then ?_
    refine c_ret ?_
    refine k_then_ret ?_
    refine r_res2 rfl (res_cellA rfl Try.isAgg24 Try.sizeOf24 (fun _ h => h.at 0 rfl) (Kv.c_len _)) (show Sep.look _ _ = some _ from rfl) ?_
    exact fun _ h => ⟨(z, true), rfl, .inl ⟨rfl, hz1, hz2⟩, h.nothing⟩
  · try simp only [decide_eq_true_eq, decide_eq_false_iff_not, Bool.not_eq_true', Bool.not_eq_false'] at h1
    have hn8 : m = 8 := by omega
    subst hn8
    have hn : a.n = 8 := hm
    refine c_false rfl ?_
    refine c_skip ?_
    refine k_then ?_
    refine c_seq ?_
    refine c_seq ?_
    refine c_region _ rfl ?_
    refine l_q rfl (q_fieldAddr rfl Try.underlying24 rfl Try.sizeOf3 rfl rfl) rfl rfl ?_
    refine l_q rfl (q_loadC rfl Try.isAgg3 rfl (fun _ h => h.at 1 rfl) rfl) rfl rfl ?_
    refine l_q rfl (q_assign rfl rfl) rfl rfl ?_
    refine l_nil ?_
    refine k_then ?_
    refine c_block ?_
    refine pull1 ?_
    refine c_loop1 (fun (i : Nat) => [(1, .pointer (some ⟨bk, 0, none⟩)), (2, .pointer (some ⟨br, 0, none⟩)), (4, .int .i64 (i : Int))]) (fun (i : Nat) => St w [] [cellsE bk 24 a.c, cellsE br 24 (kc 0 z8)]) (fun (i : Nat) => i ≤ 8 ∧ ∀ j, i ≤ j → j < 8 → a.b.getD j 0 = 255) (fun (i : Nat) => i) (8) ⟨Nat.le_refl _, fun j h1 h2 => by omega⟩ (Sub.cons rfl (Sub.cons rfl (Sub.consE rfl (by rw [hm]) Sub.nil))) (fun _ h => h) ?_
    intro i hp
    refine c_seq ?_
    refine c_seq ?_
    obtain ⟨hi, hj⟩ := hp
    have hkl := a.len
    refine c_region _ rfl ?_
    refine l_q rfl (q_move rfl rfl) rfl rfl ?_
    refine l_q rfl (q_gtr rfl rfl rfl) rfl rfl ?_
    refine l_nil ?_
    refine k_then ?_
    refine Pre.caseB 20 rfl (fun h2 => ?_) (fun h2 => ?_)
    · try simp only [decide_eq_true_eq, decide_eq_false_iff_not, Bool.not_eq_true', Bool.not_eq_false'] at h2
      obtain ⟨p, rfl⟩ : ∃ p, i = p + 1 := ⟨i - 1, by omega⟩
      have hle := kb_le (k := a) (m := p) (by omega)
      refine c_true rfl ?_
      refine c_skip ?_
      refine k_then ?_
      refine c_seq ?_
      refine c_block ?_
      refine c_seq ?_
      refine c_region _ rfl ?_
      refine l_q rfl (q_move rfl rfl) rfl rfl ?_
      refine l_q rfl (q_sub64 rfl rfl rfl (by omega)) rfl rfl ?_
      refine l_q rfl (q_fieldAddr rfl Try.underlying24 rfl Try.sizeOf22 rfl rfl) rfl rfl ?_
      refine l_q rfl (q_indexArr p rfl Try.underlying22 Try.sizeOf5 rfl rfl (by omega) (by omega)) rfl rfl ?_
      refine l_q rfl (q_loadC rfl Try.isAgg5 rfl (fun _ h => h.at 0 rfl) (kc_get a.len (by omega))) rfl rfl ?_
      refine l_q rfl (q_lss rfl rfl rfl) rfl rfl ?_
      refine l_nil ?_
      refine k_then ?_
      refine Pre.caseB 28 rfl (fun h3 => ?_) (fun h3 => ?_)
      · try simp only [decide_eq_true_eq, decide_eq_false_iff_not, Bool.not_eq_true', Bool.not_eq_false'] at h3
        obtain ⟨z, hz1, hz2, hz3⟩ := next_at (m := p) ha hn (by omega) h3 (fun j h5 h6 => hj j (by omega) h6)
        have hw : IntKind.u8.wrap (a.b.getD p 0 + 1) = a.b.getD p 0 + 1 := by
          have h7 : Byte (a.b.getD p 0) := byte_wf (a.wb _ (by rw [List.getD_eq_getElem?_getD, List.getElem?_eq_getElem (by omega)]; exact List.getElem_mem _))
          unfold Byte at h7
          exact wrapu8_in (by omega)
        refine c_true rfl ?_
        refine c_seq ?_
        refine c_region _ rfl ?_
        refine l_q rfl (q_move rfl rfl) rfl rfl ?_
        refine l_q rfl (q_sub64 rfl rfl rfl (by omega)) rfl rfl ?_
        refine l_q rfl (q_fieldAddr rfl Try.underlying24 rfl Try.sizeOf22 rfl rfl) rfl rfl ?_
        refine l_q rfl (q_indexArr p rfl Try.underlying22 Try.sizeOf5 rfl rfl (by omega) (by omega)) rfl rfl ?_
        refine l_q rfl (q_loadC rfl Try.isAgg5 rfl (fun _ h => h.at 0 rfl) (kc_get a.len (by omega))) rfl rfl ?_
        refine l_q rfl (q_add rfl rfl rfl) rfl rfl ?_
        refine l_q rfl (q_fieldAddr rfl Try.underlying24 rfl Try.sizeOf22 rfl rfl) rfl rfl ?_
        refine l_q rfl (q_indexArr p rfl Try.underlying22 Try.sizeOf5 rfl rfl (by omega) (by omega)) rfl rfl ?_
        refine l_e rfl ?_
        refine e_store rfl rfl Try.sizeOf5 rfl rfl rfl (by rw [Kv.c_len]; show 0 + 1 + p * 1 < 9; omega) ?_
        refine cells_eq (show _ = kc 8 (a.b.set p (a.b.getD p 0 + 1)) from by rw [hw]; show (kc a.n a.b).set _ _ = _; rw [hn]; exact kc_set _) ?_
        refine l_nil ?_
        refine k_then ?_
        refine c_seq ?_
        refine c_region _ rfl ?_
        refine l_q rfl (q_move rfl rfl) rfl rfl ?_
        refine l_q rfl (q_fieldAddr rfl Try.underlying24 rfl Try.sizeOf3 rfl rfl) rfl rfl ?_
        have hl8 : (a.b.set p (a.b.getD p 0 + 1)).length = 8 := by simp [hkl]
        refine l_e rfl ?_
        refine e_store rfl rfl Try.sizeOf3 rfl rfl rfl (by rw [kc_len hl8]; decide) ?_
        refine cells_eq (kc_n) ?_
        refine l_nil ?_
        refine k_then ?_
        refine c_seq ?_
        refine c_region _ rfl ?_
        refine l_q rfl (q_fieldAddr rfl Try.underlying24 rfl Try.sizeOf22 rfl rfl) rfl rfl ?_
        refine l_q rfl (q_move rfl rfl) rfl rfl ?_
        refine l_q rfl (q_sliceArrL (p + 1) rfl Try.underlying22 Try.sizeOf5 rfl rfl rfl (by omega)) rfl rfl ?_
        refine l_e rfl ?_
        refine e_clearC (z := .int .u8 0) rfl rfl Try.underlying51 info5 rfl rfl rfl rfl (by rw [kc_len hl8]; show 0 + 1 + (if 8 = p + 1 then 0 else (p + 1) * 1) + (8 - (p + 1)) ≤ 9; split <;> omega) ?_
        refine cells_eq (cs' := z.c) ?_ ?_
        · rw [hz3]
          show Sep.splice _ (0 + 1 + (if 8 = p + 1 then 0 else (p + 1) * 1)) _ = _
          rw [kc_clearP hl8 (by omega), set_take hkl (by omega)]; rfl
        refine l_nil ?_
        refine k_then ?_
        refine c_seq ?_
        refine c_region _ rfl ?_
        refine l_q rfl (q_loadCAgg (z.c) rfl Try.isAgg24 Try.sizeOf24 rfl (fun _ h => h.at 0 rfl) (kv_whole _) (Kv.c_len _)) rfl rfl ?_
        refine pull1 ?_
        refine l_e rfl ?_
        refine e_storeAgg rfl rfl Try.sizeOf24 rfl rfl (Kv.c_len _) (Kv.one _) (by rw [Kv.c_len, kc_len z8_len]; decide) ?_
        refine cells_eq (Sep.splice_all (by rw [Kv.c_len, kc_len z8_len])) ?_
        refine l_q rfl (q_assign rfl rfl) rfl rfl ?_
        refine l_nil ?_
        refine k_then ?_
        refine c_ret ?_
        refine k_block_ret ?_
        refine k_then_ret ?_
        refine k_then_ret ?_
        refine k_block_ret ?_
        refine k_then_ret ?_
        refine r_res2 rfl (res_cellA rfl Try.isAgg24 Try.sizeOf24 (fun _ h => h.at 0 rfl) (Kv.c_len _)) (show Sep.look _ _ = some _ from rfl) ?_
        exact fun _ h => ⟨(z, true), rfl, .inl ⟨rfl, hz1, hz2⟩, h.nothing⟩
      · try simp only [decide_eq_true_eq, decide_eq_false_iff_not, Bool.not_eq_true', Bool.not_eq_false'] at h3
        have h255 : a.b.getD p 0 = 255 := by omega
        refine c_false rfl ?_
        refine c_skip ?_
        refine k_block ?_
        refine k_then ?_
        refine c_region _ rfl ?_
        refine l_q rfl (q_move rfl rfl) rfl rfl ?_
        refine l_q rfl (q_sub64 rfl rfl rfl (by omega)) rfl rfl ?_
        refine l_q rfl (q_assign rfl rfl) rfl rfl ?_
        refine l_nil ?_
        exact k_round (p) (by omega) ⟨by omega, fun j h5 h6 => by rcases Nat.eq_or_lt_of_le h5 with h7 | h7; exact h7 ▸ h255; exact hj j h7 h6⟩ (Sub.cons rfl (Sub.cons rfl (Sub.consE rfl (by congr 1; omega) Sub.nil))) (fun _ h => h)
    · try simp only [decide_eq_true_eq, decide_eq_false_iff_not, Bool.not_eq_true', Bool.not_eq_false'] at h2
      have hi0 : i = 0 := by omega
      have hno := next_no ha hn (fun j h5 => hj j (by omega) h5)
      refine c_false rfl ?_
      refine c_exit ?_
      refine k_then_exit ?_
      refine k_then_exit ?_
      refine k_block_exit ?_
      refine k_then ?_
      refine c_seq ?_
      refine c_region _ rfl ?_
      refine l_q rfl (q_build (kc 0 z8) rfl rfl (fun w => by kernel_rfl)) rfl rfl ?_
      refine pull1 ?_
      refine l_e rfl ?_
      refine e_storeAgg rfl rfl Try.sizeOf24 rfl rfl rfl kc_one (Nat.le_of_ble_eq_true rfl) ?_
      refine cells_eq (kc_all z8_len z8_len) ?_
      refine l_q rfl (q_assign rfl rfl) rfl rfl ?_
      refine l_nil ?_
      refine k_then ?_
      refine c_ret ?_
      refine r_res2 rfl (res_cellA rfl Try.isAgg24 Try.sizeOf24 (fun _ h => h.at 0 rfl) (kc_len z8_len)) (show Sep.look _ _ = some _ from rfl) ?_
      exact fun _ h => ⟨(kv0 8, false), rfl, .inr ⟨rfl, rfl, hno⟩, h.nothing⟩
set_option maxRecDepth 100000 in
set_option maxHeartbeats 1000000 in
theorem rnext_spec (a : Kv 8) (ha : kck a = true) : Con Try.prog 23 [.agg a.c.toArray] (fun _ => True) [] (fun z : Kv 8 × Bool => .tuple #[.agg z.1.c.toArray, .bool z.2]) (NextOf a) (fun _ => []) := by
  intro w hE hH
  obtain ⟨m, hm, hm8, hta, htal, htb⟩ := kck_parts ha
  refine enter (n := 38) (vs := [.agg a.c.toArray]) (St w [] []) Try.func23 rfl rfl rfl (St.init hH) ?_
  refine c_seq ?_
  refine c_region _ rfl ?_
  refine l_e rfl ?_
  refine e_box rfl rfl rfl rfl ?_
  intro bk
  refine cells_eq (show _ = a.c from rfl) ?_
  refine l_e rfl ?_
  refine e_alloc rfl rfl rfl Try.zeroValue24 ?_
  intro br
  refine cells_eq (show _ = kc 0 z8 from rfl) ?_
  refine l_q rfl (q_assign rfl rfl) rfl rfl ?_
  refine l_nil ?_
  refine k_then ?_
  refine c_seq ?_
  refine c_seq ?_
  refine c_region _ rfl ?_
  refine l_q rfl (q_fieldAddr rfl Try.underlying24 rfl Try.sizeOf3 rfl rfl) rfl rfl ?_
  refine l_q rfl (q_loadC rfl Try.isAgg3 rfl (fun _ h => h.at 1 rfl) rfl) rfl rfl ?_
  refine l_q rfl (q_lss rfl rfl rfl) rfl rfl ?_
  refine l_nil ?_
  refine k_then ?_
  refine Pre.caseB 7 rfl (fun h1 => ?_) (fun h1 => ?_)
  · try simp only [decide_eq_true_eq, decide_eq_false_iff_not, Bool.not_eq_true', Bool.not_eq_false'] at h1
    obtain ⟨z, hz1, hz2, hz3⟩ := next_lt ha hm (by omega)
    refine c_true rfl ?_
    refine c_seq ?_
    refine c_region _ rfl ?_
    refine l_q rfl (q_fieldAddr rfl Try.underlying24 rfl Try.sizeOf3 rfl rfl) rfl rfl ?_
    refine l_q rfl (q_loadC rfl Try.isAgg3 rfl (fun _ h => h.at 1 rfl) rfl) rfl rfl ?_
    refine l_q rfl (q_add64 rfl rfl rfl (by omega)) rfl rfl ?_
    refine l_q rfl (q_fieldAddr rfl Try.underlying24 rfl Try.sizeOf3 rfl rfl) rfl rfl ?_
    refine pull1 ?_
    refine l_e rfl ?_
    refine e_store rfl rfl Try.sizeOf3 rfl rfl rfl (by rw [Kv.c_len]; decide) ?_
    refine cells_eq (show _ = z.c from hz3.symm) ?_
    refine l_nil ?_
    refine k_then ?_
    refine c_seq ?_
    refine c_region _ rfl ?_
    refine l_q rfl (q_loadCAgg (z.c) rfl Try.isAgg24 Try.sizeOf24 rfl (fun _ h => h.at 0 rfl) (kv_whole _) (Kv.c_len _)) rfl rfl ?_
    refine pull1 ?_
    refine l_e rfl ?_
    refine e_storeAgg rfl rfl Try.sizeOf24 rfl rfl (Kv.c_len _) (Kv.one _) (by rw [Kv.c_len, kc_len z8_len]; decide) ?_
    refine cells_eq (Sep.splice_all (by rw [Kv.c_len, kc_len z8_len])) ?_
    refine l_q rfl (q_assign rfl rfl) rfl rfl ?_
    refine l_nil ?_
    refine k_then ?_
    refine c_ret ?_
    refine k_then_ret ?_
    refine r_res2 rfl (res_cellA rfl Try.isAgg24 Try.sizeOf24 (fun _ h => h.at 0 rfl) (Kv.c_len _)) (show Sep.look _ _ = some _ from rfl) ?_
    exact fun _ h => ⟨(z, true), rfl, .inl ⟨rfl, hz1, hz2⟩, h.nothing⟩
  · try simp only [decide_eq_true_eq, decide_eq_false_iff_not, Bool.not_eq_true', Bool.not_eq_false'] at h1
    have hn8 : m = 8 := by omega
    subst hn8
    have hn : a.n = 8 := hm
    refine c_false rfl ?_
    refine c_skip ?_
    refine k_then ?_
    refine c_seq ?_
    refine c_seq ?_
    refine c_region _ rfl ?_
    refine l_q rfl (q_assign rfl rfl) rfl rfl ?_
    refine l_nil ?_
    refine k_then ?_
    refine c_block ?_
    refine pull1 ?_
    refine c_loop1 (fun (i : Nat) => [(1, .pointer (some ⟨bk, 0, none⟩)), (2, .pointer (some ⟨br, 0, none⟩)), (4, .int .i64 ((i : Int) - 1))]) (fun (i : Nat) => St w [] [cellsE bk 24 (kc 8 (a.b.take i ++ List.replicate (8 - i) 0)), cellsE br 24 (kc 0 z8)]) (fun (i : Nat) => i ≤ 8 ∧ ∀ j, i ≤ j → j < 8 → a.b.getD j 0 = 255) (fun (i : Nat) => i) (8) ⟨Nat.le_refl _, fun j h1 h2 => by omega⟩ (Sub.cons rfl (Sub.cons rfl (Sub.cons rfl (Sub.nil)))) (fun _ h => by rw [List.take_of_length_le (by rw [a.len]; exact Nat.le_refl _)]; show St w [] (cellsE bk 24 (kc 8 (a.b ++ [])) :: _) _; rw [List.append_nil, ← hn]; exact h) ?_
    intro i hp
    refine c_seq ?_
    refine c_seq ?_
    obtain ⟨hi, hj⟩ := hp
    have hkl := a.len
    have hll : (a.b.take i ++ List.replicate (8 - i) 0).length = 8 := by simp [hkl]; omega
    refine c_region _ rfl ?_
    refine l_q rfl (q_move rfl rfl) rfl rfl ?_
    refine l_q rfl (q_geq rfl rfl rfl) rfl rfl ?_
    refine l_nil ?_
    refine k_then ?_
    refine Pre.caseB 14 rfl (fun h2 => ?_) (fun h2 => ?_)
    · try simp only [decide_eq_true_eq, decide_eq_false_iff_not, Bool.not_eq_true', Bool.not_eq_false'] at h2
      obtain ⟨p, rfl⟩ : ∃ p, i = p + 1 := ⟨i - 1, by omega⟩
      have hle := kb_le (k := a) (m := p) (by omega)
      have hgp : (a.b.take (p + 1) ++ List.replicate (8 - (p + 1)) 0).getD p 0 = a.b.getD p 0 := by rw [List.getD_eq_getElem?_getD, List.getElem?_append_left (by simp [hkl]; omega), List.getElem?_take_of_lt (by omega), ← List.getD_eq_getElem?_getD]
      refine c_true rfl ?_
      refine c_skip ?_
      refine k_then ?_
      refine c_seq ?_
      refine c_block ?_
      refine c_seq ?_
      refine c_seq ?_
      refine c_region _ rfl ?_
      refine l_q rfl (q_move rfl rfl) rfl rfl ?_
      refine l_q rfl (q_fieldAddr rfl Try.underlying24 rfl Try.sizeOf22 rfl rfl) rfl rfl ?_
      refine l_q rfl (q_indexArr p rfl Try.underlying22 Try.sizeOf5 rfl rfl (by omega) (by omega)) rfl rfl ?_
      refine l_q rfl (q_loadC rfl Try.isAgg5 rfl (fun _ h => h.at 0 rfl) (kc_get hll (by omega))) rfl rfl ?_
      refine l_q rfl (q_lss rfl rfl rfl) rfl rfl ?_
      refine l_nil ?_
      refine k_then ?_
      refine Pre.caseB 21 rfl (fun h3 => ?_) (fun h3 => ?_)
      · try simp only [decide_eq_true_eq, decide_eq_false_iff_not, Bool.not_eq_true', Bool.not_eq_false'] at h3
        rw [hgp] at h3
        obtain ⟨z, hz1, hz2, hz3⟩ := next_at (m := p) ha hn (by omega) h3 (fun j h5 h6 => hj j (by omega) h6)
        have hw : IntKind.u8.wrap (a.b.getD p 0 + 1) = a.b.getD p 0 + 1 := by
          have h7 : Byte (a.b.getD p 0) := byte_wf (a.wb _ (by rw [List.getD_eq_getElem?_getD, List.getElem?_eq_getElem (by omega)]; exact List.getElem_mem _))
          unfold Byte at h7
          exact wrapu8_in (by omega)
        refine c_true rfl ?_
        refine c_seq ?_
        refine c_region _ rfl ?_
        refine l_q rfl (q_move rfl rfl) rfl rfl ?_
        refine l_q rfl (q_move rfl rfl) rfl rfl ?_
        refine l_q rfl (q_fieldAddr rfl Try.underlying24 rfl Try.sizeOf22 rfl rfl) rfl rfl ?_
        refine l_q rfl (q_indexArr p rfl Try.underlying22 Try.sizeOf5 rfl rfl (by omega) (by omega)) rfl rfl ?_
        refine l_q rfl (q_loadC rfl Try.isAgg5 rfl (fun _ h => h.at 0 rfl) (kc_get hll (by omega))) rfl rfl ?_
        refine l_q rfl (q_add rfl rfl rfl) rfl rfl ?_
        refine l_q rfl (q_fieldAddr rfl Try.underlying24 rfl Try.sizeOf22 rfl rfl) rfl rfl ?_
        refine l_q rfl (q_indexArr p rfl Try.underlying22 Try.sizeOf5 rfl rfl (by omega) (by omega)) rfl rfl ?_
        refine l_e rfl ?_
        refine e_store rfl rfl Try.sizeOf5 rfl rfl rfl (by rw [kc_len hll]; show 0 + 1 + p * 1 < 9; omega) ?_
        refine cells_eq (show _ = kc 8 ((a.b.take (p + 1) ++ List.replicate (8 - (p + 1)) 0).set p (a.b.getD p 0 + 1)) from by rw [hgp, hw]; exact kc_set _) ?_
        refine l_nil ?_
        refine k_then ?_
        refine c_seq ?_
        refine c_region _ rfl ?_
        refine l_q rfl (q_move rfl rfl) rfl rfl ?_
        refine l_q rfl (q_add64 rfl rfl rfl (by omega)) rfl rfl ?_
        refine l_q rfl (q_fieldAddr rfl Try.underlying24 rfl Try.sizeOf3 rfl rfl) rfl rfl ?_
        have hl8 : ((a.b.take (p + 1) ++ List.replicate (8 - (p + 1)) 0).set p (a.b.getD p 0 + 1)).length = 8 := by simp [hkl]; omega
        refine l_e rfl ?_
        refine e_store rfl rfl Try.sizeOf3 rfl rfl rfl (by rw [kc_len hl8]; decide) ?_
        refine cells_eq (show _ = z.c from by
          rw [hz3]
          show kc _ _ = _
          rw [← rset (by omega) hkl]; congr 2; omega) ?_
        refine l_nil ?_
        refine k_then ?_
        refine c_seq ?_
        refine c_region _ rfl ?_
        refine l_q rfl (q_loadCAgg (z.c) rfl Try.isAgg24 Try.sizeOf24 rfl (fun _ h => h.at 0 rfl) (kv_whole _) (Kv.c_len _)) rfl rfl ?_
        refine pull1 ?_
        refine l_e rfl ?_
        refine e_storeAgg rfl rfl Try.sizeOf24 rfl rfl (Kv.c_len _) (Kv.one _) (by rw [Kv.c_len, kc_len z8_len]; decide) ?_
        refine cells_eq (Sep.splice_all (by rw [Kv.c_len, kc_len z8_len])) ?_
        refine l_q rfl (q_assign rfl rfl) rfl rfl ?_
        refine l_nil ?_
        refine k_then ?_
        refine c_ret ?_
        refine k_then_ret ?_
        refine k_block_ret ?_
        refine k_then_ret ?_
        refine k_then_ret ?_
        refine k_block_ret ?_
        refine k_then_ret ?_
        refine r_res2 rfl (res_cellA rfl Try.isAgg24 Try.sizeOf24 (fun _ h => h.at 0 rfl) (Kv.c_len _)) (show Sep.look _ _ = some _ from rfl) ?_
        exact fun _ h => ⟨(z, true), rfl, .inl ⟨rfl, hz1, hz2⟩, h.nothing⟩
      · try simp only [decide_eq_true_eq, decide_eq_false_iff_not, Bool.not_eq_true', Bool.not_eq_false'] at h3
        have h255 : a.b.getD p 0 = 255 := by omega
        refine c_false rfl ?_
        refine c_skip ?_
        refine k_then ?_
        refine c_region _ rfl ?_
        refine l_q rfl (q_move rfl rfl) rfl rfl ?_
        refine l_q rfl (q_fieldAddr rfl Try.underlying24 rfl Try.sizeOf22 rfl rfl) rfl rfl ?_
        refine l_q rfl (q_indexArr p rfl Try.underlying22 Try.sizeOf5 rfl rfl (by omega) (by omega)) rfl rfl ?_
        refine l_e rfl ?_
        refine e_store rfl rfl Try.sizeOf5 rfl rfl rfl (by rw [kc_len hll]; show 0 + 1 + p * 1 < 9; omega) ?_
        refine cells_eq (show _ = kc 8 (a.b.take p ++ List.replicate (8 - p) 0) from (kc_set _).trans (by rw [rzero (by omega) hkl])) ?_
        refine l_nil ?_
        refine k_block ?_
        refine k_then ?_
        refine c_region _ rfl ?_
        refine l_q rfl (q_move rfl rfl) rfl rfl ?_
        refine l_q rfl (q_sub64 rfl rfl rfl (by omega)) rfl rfl ?_
        refine l_q rfl (q_assign rfl rfl) rfl rfl ?_
        refine l_nil ?_
        exact k_round (p) (by omega) ⟨by omega, fun j h5 h6 => by rcases Nat.eq_or_lt_of_le h5 with h7 | h7; exact h7 ▸ h255; exact hj j h7 h6⟩ (Sub.cons rfl (Sub.cons rfl (Sub.consE rfl (by congr 1; omega) Sub.nil))) (fun _ h => h)
    · try simp only [decide_eq_true_eq, decide_eq_false_iff_not, Bool.not_eq_true', Bool.not_eq_false'] at h2
      have hi0 : i = 0 := by omega
      have hno := next_no ha hn (fun j h5 => hj j (by omega) h5)
      refine c_false rfl ?_
      refine c_exit ?_
      refine k_then_exit ?_
      refine k_then_exit ?_
      refine k_block_exit ?_
      refine k_then ?_
      refine c_seq ?_
      refine c_region _ rfl ?_
      refine l_q rfl (q_build (kc 0 z8) rfl rfl (fun w => by kernel_rfl)) rfl rfl ?_
      refine pull1 ?_
      refine l_e rfl ?_
      refine e_storeAgg rfl rfl Try.sizeOf24 rfl rfl rfl kc_one (Nat.le_of_ble_eq_true rfl) ?_
      refine cells_eq (kc_all z8_len z8_len) ?_
      refine l_q rfl (q_assign rfl rfl) rfl rfl ?_
      refine l_nil ?_
      refine k_then ?_
      refine c_ret ?_
      refine r_res2 rfl (res_cellA rfl Try.isAgg24 Try.sizeOf24 (fun _ h => h.at 0 rfl) (kc_len z8_len)) (show Sep.look _ _ = some _ from rfl) ?_
      exact fun _ h => ⟨(kv0 8, false), rfl, .inr ⟨rfl, rfl, hno⟩, h.nothing⟩
end Go.Proofs.Ytaojcncmbbgmcaa
