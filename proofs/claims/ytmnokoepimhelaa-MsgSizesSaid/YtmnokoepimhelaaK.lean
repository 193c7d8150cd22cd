/- keys: Check -/
import Derived.Test.YtmnokoepimhelaaV
set_option linter.unusedVariables false
set_option linter.unusedSimpArgs false
namespace Go.Proofs.Ytmnokoepimhelaa
open Go.Sep Go.RowKit

theorem wf_n8 {k : Nat} (h : k ≤ 65536) : (Lit.int .i64 (k : Int)).wf = true := by
  simp only [Lit.wf, Bool.and_eq_true, decide_eq_true_eq]
  exact ⟨by show (-2 ^ 63 : Int) ≤ _; omega, by show _ ≤ (2 ^ 63 - 1 : Int); omega⟩
theorem flat_u8 (l : List Int) : (encI .u8).flat l = l.map (.int .u8) := flat_one' (encI .u8) (Value.int .u8) (fun _ => rfl) l
theorem kv_get {m : Nat} (k : Kv m) {j : Nat} (h : j < m) : k.c[1 + j]? = some (.int .u8 (k.b.getD j 0)) := by
  rw [Nat.add_comm]
  have hj : j < k.b.length := by rw [k.len]; exact h
  simp [Kv.c, List.getD_eq_getElem?_getD, hj]
/-- Is it a key? -/
def kck (k : Kv 8) : Bool := decide (0 ≤ k.n ∧ k.n ≤ 8 ∧ ∀ i : Nat, i < 8 → k.n ≤ (i : Int) → k.b.getD i 0 = 0)
theorem kck_lo {k : Kv 8} (h : k.n < 0) : kck k = false := decide_eq_false (fun x => by omega)
theorem kck_hi {k : Kv 8} (h : 8 < k.n) : kck k = false := decide_eq_false (fun x => by omega)
theorem kck_no {k : Kv 8} {i : Nat} (h : i < 8) (hn : k.n ≤ (i : Int)) (hb : ¬ k.b.getD i 0 = 0) : kck k = false := decide_eq_false (fun q => hb (q.2.2 i h hn))
theorem kck_yes {k : Kv 8} {m : Nat} (hm : k.n = (m : Int)) (h8 : m ≤ 8) (hz : ∀ j, m ≤ j → j < 8 → k.b.getD j 0 = 0) : kck k = true := decide_eq_true ⟨by omega, by omega, fun i h1 h2 => hz i (by omega) h1⟩
theorem kv_whole {m : Nat} (k : Kv m) : (k.c.drop 0).take (m + 1) = k.c := List.take_of_length_le (by rw [List.drop_zero, Kv.c_len]; exact Nat.le_refl _)
/-- The key of the first n bytes. -/
def kcut (k : Kv 8) (n : Nat) (h : n ≤ 8) : Kv 8 := ⟨n, k.b.take n ++ List.replicate (8 - n) 0, by simp [k.len]; omega, wf_n8 (by omega), fun x hx => by
  rcases List.mem_append.1 hx with hx | hx
  · exact k.wb x (List.mem_of_mem_take hx)
  · rw [(List.mem_replicate.1 hx).2]; decide⟩
theorem kcut_eq (k : Kv 8) {n : Nat} (hn : k.n = (n : Int)) (h : n ≤ 8) : decide (kcut k n h = k) = kck k := by
  unfold kck
  rw [decide_eq_decide]
  have hlen : (k.b.take n ++ List.replicate (8 - n) 0).length = 8 := by simp [k.len]; omega
  constructor
  · intro e
    refine ⟨by omega, by omega, fun i hi hni => ?_⟩
    have hb : k.b = k.b.take n ++ List.replicate (8 - n) 0 := (congrArg Kv.b e).symm
    rw [hb, List.getD_eq_getElem?_getD, List.getElem?_append_right (by simp; omega), List.getElem?_replicate]
    split <;> rfl
  · rintro ⟨_, _, hz⟩
    have hl : k.b.take n ++ List.replicate (8 - n) 0 = k.b := List.ext_getElem (by rw [k.len]; exact hlen) (fun i h1 h2 => by
      have hi : i < 8 := by rw [← k.len]; exact h2
      rcases Nat.lt_or_ge i n with hin | hin
      · rw [List.getElem_append_left (by simp; omega), List.getElem_take]
      · rw [List.getElem_append_right (by simp; omega), List.getElem_replicate]
        have := hz i hi (by omega)
        rw [List.getD_eq_getElem?_getD, List.getElem?_eq_getElem h2] at this
        exact this.symm)
    exact Kv.ext' hn.symm hl
/-- A number, and no bytes. -/
def kz (m : Nat) (n : Int) (h : (Lit.int .i64 n).wf = true) : Kv m := ⟨n, List.replicate m 0, by simp, h, fun x h => by rw [(List.mem_replicate.1 h).2]; decide⟩
theorem kcopy (k : Kv 8) {n : Nat} (h : n ≤ 8) : Sep.splice (.int .i64 (n : Int) :: List.replicate 8 (.int .u8 0)) 1 ((encI .u8).flat (k.b.take (min k.b.length n))) = (kcut k n h).c := by
  have hm : min k.b.length n = n := by rw [k.len]; omega
  have hl : (k.b.take n).length = n := by simp [k.len]; omega
  rw [hm, flat_u8, Sep.splice_eq _ _ _ (by simp [k.len]; omega)]
  simp only [List.length_map, hl, Kv.c, kcut, List.map_append, List.map_replicate]
  rw [Nat.add_comm 1 n, List.take_succ_cons, List.take_zero, List.drop_succ_cons, List.drop_replicate]
  rfl

set_option maxRecDepth 100000 in
set_option maxHeartbeats 1000000 in
theorem kcheck_spec (k : Kv 8) : Con Try.prog 23 [.agg k.c.toArray] (fun _ => True) [] (fun _ : Unit => .bool (kck k)) (fun _ => True) (fun _ => []) := by
  intro w hE hH
  refine enter (n := 25) (vs := [.agg k.c.toArray]) (St w [] []) Try.func23 rfl rfl rfl (St.init hH) ?_
  refine c_seq ?_
  refine c_region _ rfl ?_
  refine l_e rfl ?_
  refine e_box rfl rfl rfl rfl ?_
  intro bk
  refine cells_eq (show _ = k.c from rfl) ?_
  refine l_q rfl (q_assign rfl rfl) rfl rfl ?_
  refine l_nil ?_
  refine k_then ?_
  refine c_seq ?_
  refine c_seq ?_
  refine c_region _ rfl ?_
  refine l_q rfl (q_fieldAddr rfl Try.underlying25 rfl Try.sizeOf3 rfl rfl) rfl rfl ?_
  refine l_q rfl (q_loadC rfl Try.isAgg3 rfl (fun _ h => h.at 0 rfl) rfl) rfl rfl ?_
  refine l_q rfl (q_lss rfl rfl rfl) rfl rfl ?_
  refine l_q rfl (q_move rfl rfl) rfl rfl ?_
  refine Pre.caseB 7 rfl (fun h1 => ?_) (fun h1 => ?_)
  · simp only [decide_eq_true_eq, decide_eq_false_iff_not, Bool.not_eq_true', Bool.not_eq_false'] at h1
    rw [kck_lo h1]
    refine l_not rfl rfl rfl ?_
    refine l_not rfl rfl rfl ?_
    refine l_not rfl rfl rfl ?_
    refine l_q rfl (q_pick_t rfl rfl rfl) rfl rfl ?_
    refine l_nil ?_
    refine k_then ?_
    refine c_true rfl ?_
    refine c_seq ?_
    refine c_region _ rfl ?_
    refine l_q rfl (q_assign rfl rfl) rfl rfl ?_
    refine l_nil ?_
    refine k_then ?_
    refine c_ret ?_
    refine k_then_ret ?_
    refine r_one rfl rfl ?_
    exact fun _ h => ⟨(), rfl, trivial, h.nothing⟩
  · simp only [decide_eq_true_eq, decide_eq_false_iff_not, Bool.not_eq_true', Bool.not_eq_false'] at h1
    refine l_q rfl (q_fieldAddr rfl Try.underlying25 rfl Try.sizeOf3 rfl rfl) rfl rfl ?_
    refine l_q rfl (q_loadC rfl Try.isAgg3 rfl (fun _ h => h.at 0 rfl) rfl) rfl rfl ?_
    refine l_q rfl (q_gtr rfl rfl rfl) rfl rfl ?_
    refine l_q rfl (q_pick_f rfl rfl rfl) rfl rfl ?_
    refine l_nil ?_
    refine k_then ?_
    refine Pre.caseB 11 rfl (fun h2 => ?_) (fun h2 => ?_)
    · simp only [decide_eq_true_eq, decide_eq_false_iff_not, Bool.not_eq_true', Bool.not_eq_false'] at h2
      rw [kck_hi h2]
      refine c_true rfl ?_
      refine c_seq ?_
      refine c_region _ rfl ?_
      refine l_q rfl (q_assign rfl rfl) rfl rfl ?_
      refine l_nil ?_
      refine k_then ?_
      refine c_ret ?_
      refine k_then_ret ?_
      refine r_one rfl rfl ?_
      exact fun _ h => ⟨(), rfl, trivial, h.nothing⟩
    · simp only [decide_eq_true_eq, decide_eq_false_iff_not, Bool.not_eq_true', Bool.not_eq_false'] at h2
      obtain ⟨m, hm, hm8⟩ : ∃ m : Nat, k.n = (m : Int) ∧ m ≤ 8 := ⟨k.n.toNat, by omega, by omega⟩
      refine c_false rfl ?_
      refine c_skip ?_
      refine k_then ?_
      refine c_seq ?_
      refine c_region _ rfl ?_
      refine l_q rfl (q_fieldAddr rfl Try.underlying25 rfl Try.sizeOf3 rfl rfl) rfl rfl ?_
      refine l_q rfl (q_loadC rfl Try.isAgg3 rfl (fun _ h => h.at 0 rfl) rfl) rfl rfl ?_
      refine l_q rfl (q_build ((kz 8 k.n k.wn).c) rfl rfl (fun w => by kernel_rfl)) rfl rfl ?_
      refine l_e rfl ?_
      refine e_alloc rfl rfl rfl Try.zeroValue25 ?_
      intro bx
      refine l_e rfl ?_
      refine e_storeAgg rfl rfl Try.sizeOf25 rfl rfl rfl (Kv.one _) (Nat.le_of_ble_eq_true rfl) ?_
      refine cells_eq (show _ = .int .i64 k.n :: List.replicate 8 (.int .u8 0) from rfl) ?_
      refine l_nil ?_
      refine k_then ?_
      refine c_seq ?_
      refine c_draw [(0, some true), (1, some true), (2, some true), (3, some true), (4, some true), (5, some true), (6, none)] [6] [(_, some true), (_, some true), (_, some true), (_, some true), (_, some true), (_, some true), (_, none)] _ (blind_then blind_body) rfl (by kernel_rfl) (by kernel_rfl) rfl rfl rfl (by kernel_rfl) St.drawn (fun _ h => h) ?_
      refine d_q rfl (q_fieldAddr rfl Try.underlying25 rfl Try.sizeOf23 rfl rfl) rfl rfl ?_
      refine d_q rfl (q_fieldAddr rfl Try.underlying25 rfl Try.sizeOf3 rfl rfl) rfl rfl ?_
      refine d_q rfl (q_loadC rfl Try.isAgg3 rfl (fun _ h => h.at 1 rfl) rfl) rfl rfl ?_
      refine d_q rfl (q_sliceArrH m rfl Try.underlying23 Try.sizeOf5 rfl rfl hm (by omega)) rfl rfl ?_
      refine d_q rfl (q_fieldAddr rfl Try.underlying25 rfl Try.sizeOf23 rfl rfl) rfl rfl ?_
      refine d_q rfl (q_sliceArr rfl Try.underlying23 Try.sizeOf5 rfl) rfl rfl ?_
      refine d_t rfl ?_
      refine e_copy (E := (encI .u8)) (l := k.b) rfl rfl rfl Try.underlying52 Try.sizeOf5 rfl rfl (fun _ h => rd_part (h.at 1 rfl) (encI .u8) k.b k.len (Nat.le_refl _) (by rw [flat_u8]; exact List.take_of_length_le (by simp [Kv.c, k.len, encI]))) (by simp [k.len, encI]; omega) ?_
      refine cells_eq (show _ = (kcut k m hm8).c from by rw [hm]; exact kcopy k hm8) ?_
      refine d_nil ?_
      refine k_then ?_
      refine c_seq ?_
      refine c_region _ rfl ?_
      refine l_q rfl (q_loadCAgg ((kcut k m hm8).c) rfl Try.isAgg25 Try.sizeOf25 rfl (fun _ h => h.at 0 rfl) (kv_whole _) (Kv.c_len _)) rfl rfl ?_
      refine l_q rfl (q_loadCAgg (k.c) rfl Try.isAgg25 Try.sizeOf25 rfl (fun _ h => h.at 1 rfl) (kv_whole _) (Kv.c_len _)) rfl rfl ?_
      refine l_q rfl (q_eqK ((kcut k m hm8)) (k) rfl rfl rfl) rfl rfl ?_
      refine l_q rfl (q_assign rfl rfl) rfl rfl ?_
      refine l_nil ?_
      refine k_then ?_
      refine c_ret ?_
      rw [← kcut_eq k hm hm8]
      refine r_one rfl rfl ?_
      exact fun _ h => ⟨(), rfl, trivial, h.nothing⟩
set_option maxRecDepth 100000 in
set_option maxHeartbeats 1000000 in
theorem rkcheck_spec (k : Kv 8) : Con Try.prog 25 [.agg k.c.toArray] (fun _ => True) [] (fun _ : Unit => .bool (kck k)) (fun _ => True) (fun _ => []) := by
  intro w hE hH
  refine enter (n := 23) (vs := [.agg k.c.toArray]) (St w [] []) Try.func25 rfl rfl rfl (St.init hH) ?_
  refine c_seq ?_
  refine c_region _ rfl ?_
  refine l_e rfl ?_
  refine e_box rfl rfl rfl rfl ?_
  intro bk
  refine cells_eq (show _ = k.c from rfl) ?_
  refine l_q rfl (q_assign rfl rfl) rfl rfl ?_
  refine l_nil ?_
  refine k_then ?_
  refine c_seq ?_
  refine c_seq ?_
  refine c_region _ rfl ?_
  refine l_q rfl (q_fieldAddr rfl Try.underlying25 rfl Try.sizeOf3 rfl rfl) rfl rfl ?_
  refine l_q rfl (q_loadC rfl Try.isAgg3 rfl (fun _ h => h.at 0 rfl) rfl) rfl rfl ?_
  refine l_q rfl (q_lss rfl rfl rfl) rfl rfl ?_
  refine l_q rfl (q_move rfl rfl) rfl rfl ?_
  refine Pre.caseB 7 rfl (fun h1 => ?_) (fun h1 => ?_)
  · simp only [decide_eq_true_eq, decide_eq_false_iff_not, Bool.not_eq_true', Bool.not_eq_false'] at h1
    rw [kck_lo h1]
    refine l_not rfl rfl rfl ?_
    refine l_not rfl rfl rfl ?_
    refine l_not rfl rfl rfl ?_
    refine l_q rfl (q_pick_t rfl rfl rfl) rfl rfl ?_
    refine l_nil ?_
    refine k_then ?_
    refine c_true rfl ?_
    refine c_seq ?_
    refine c_region _ rfl ?_
    refine l_q rfl (q_assign rfl rfl) rfl rfl ?_
    refine l_nil ?_
    refine k_then ?_
    refine c_ret ?_
    refine k_then_ret ?_
    refine r_one rfl rfl ?_
    exact fun _ h => ⟨(), rfl, trivial, h.nothing⟩
  · simp only [decide_eq_true_eq, decide_eq_false_iff_not, Bool.not_eq_true', Bool.not_eq_false'] at h1
    refine l_q rfl (q_fieldAddr rfl Try.underlying25 rfl Try.sizeOf3 rfl rfl) rfl rfl ?_
    refine l_q rfl (q_loadC rfl Try.isAgg3 rfl (fun _ h => h.at 0 rfl) rfl) rfl rfl ?_
    refine l_q rfl (q_gtr rfl rfl rfl) rfl rfl ?_
    refine l_q rfl (q_pick_f rfl rfl rfl) rfl rfl ?_
    refine l_nil ?_
    refine k_then ?_
    refine Pre.caseB 11 rfl (fun h2 => ?_) (fun h2 => ?_)
    · simp only [decide_eq_true_eq, decide_eq_false_iff_not, Bool.not_eq_true', Bool.not_eq_false'] at h2
      rw [kck_hi h2]
      refine c_true rfl ?_
      refine c_seq ?_
      refine c_region _ rfl ?_
      refine l_q rfl (q_assign rfl rfl) rfl rfl ?_
      refine l_nil ?_
      refine k_then ?_
      refine c_ret ?_
      refine k_then_ret ?_
      refine r_one rfl rfl ?_
      exact fun _ h => ⟨(), rfl, trivial, h.nothing⟩
    · simp only [decide_eq_true_eq, decide_eq_false_iff_not, Bool.not_eq_true', Bool.not_eq_false'] at h2
      obtain ⟨m, hm, hm8⟩ : ∃ m : Nat, k.n = (m : Int) ∧ m ≤ 8 := ⟨k.n.toNat, by omega, by omega⟩
      refine c_false rfl ?_
      refine c_skip ?_
      refine k_then ?_
      refine c_seq ?_
      refine c_seq ?_
      refine c_region _ rfl ?_
      refine l_q rfl (q_fieldAddr rfl Try.underlying25 rfl Try.sizeOf3 rfl rfl) rfl rfl ?_
      refine l_q rfl (q_loadC rfl Try.isAgg3 rfl (fun _ h => h.at 0 rfl) rfl) rfl rfl ?_
      refine l_q rfl (q_assign rfl rfl) rfl rfl ?_
      refine l_nil ?_
      refine k_then ?_
      refine c_block ?_
      refine c_loop1 (fun (i : Nat) => [(1, .pointer (some ⟨bk, 0, none⟩)), (3, .int .i64 (i : Int))]) (fun (i : Nat) => St w [] [cellsE bk 25 k.c]) (fun (i : Nat) => i ≤ 8 ∧ m ≤ i ∧ ∀ j, m ≤ j → j < i → k.b.getD j 0 = 0) (fun (i : Nat) => 8 - i) (m) ⟨hm8, Nat.le_refl _, fun j h1 h2 => by omega⟩ (Sub.cons rfl (Sub.consE rfl (by rw [hm]) Sub.nil)) (fun _ h => h) ?_
      intro i hp
      refine c_seq ?_
      refine c_seq ?_
      obtain ⟨hi, hmi, hz⟩ := hp
      refine c_region _ rfl ?_
      refine l_q rfl (q_move rfl rfl) rfl rfl ?_
      refine l_q rfl (q_lss rfl rfl rfl) rfl rfl ?_
      refine l_nil ?_
      refine k_then ?_
      refine Pre.caseB 15 rfl (fun hil => ?_) (fun hil => ?_)
      · simp only [decide_eq_true_eq, decide_eq_false_iff_not, Bool.not_eq_true', Bool.not_eq_false'] at hil
        refine c_true rfl ?_
        refine c_skip ?_
        refine k_then ?_
        refine c_seq ?_
        refine c_block ?_
        refine c_seq ?_
        refine c_region _ rfl ?_
        refine l_q rfl (q_move rfl rfl) rfl rfl ?_
        refine l_q rfl (q_fieldAddr rfl Try.underlying25 rfl Try.sizeOf23 rfl rfl) rfl rfl ?_
        refine l_q rfl (q_indexArr i rfl Try.underlying23 Try.sizeOf5 rfl rfl rfl (by omega)) rfl rfl ?_
        refine l_q rfl (q_loadC rfl Try.isAgg5 rfl (fun _ h => h.at 0 rfl) (kv_get k (by omega))) rfl rfl ?_
        refine l_q rfl (q_neq rfl rfl rfl) rfl rfl ?_
        refine l_nil ?_
        refine k_then ?_
        refine Pre.caseB 22 rfl (fun hne => ?_) (fun hne => ?_)
        · simp only [decide_eq_true_eq, decide_eq_false_iff_not, Bool.not_eq_true', Bool.not_eq_false'] at hne
          have hf : kck k = false := kck_no (i := i) (by omega) (by omega) (by simpa using hne)
          rw [hf]
          refine c_true rfl ?_
          refine c_seq ?_
          refine c_region _ rfl ?_
          refine l_q rfl (q_assign rfl rfl) rfl rfl ?_
          refine l_nil ?_
          refine k_then ?_
          refine c_ret ?_
          refine k_block_ret ?_
          refine k_then_ret ?_
          refine k_then_ret ?_
          refine k_block_ret ?_
          refine k_then_ret ?_
          refine r_one rfl rfl ?_
          exact fun _ h => ⟨(), rfl, trivial, h.nothing⟩
        · simp only [decide_eq_true_eq, decide_eq_false_iff_not, Bool.not_eq_true', Bool.not_eq_false'] at hne
          refine c_false rfl ?_
          refine c_skip ?_
          refine k_block ?_
          refine k_then ?_
          refine c_region _ rfl ?_
          refine l_q rfl (q_move rfl rfl) rfl rfl ?_
          refine l_q rfl (q_inc rfl rfl rfl (by omega)) rfl rfl ?_
          refine l_q rfl (q_assign rfl rfl) rfl rfl ?_
          refine l_nil ?_
          exact k_round (i + 1) (by omega) ⟨by omega, by omega, fun j h1 h2 => by
              rcases Nat.lt_succ_iff_lt_or_eq.1 h2 with h3 | rfl
              · exact hz j h1 h3
              · simpa using hne⟩ (Sub.cons rfl (Sub.cons rfl (Sub.nil))) (fun _ h => h)
      · simp only [decide_eq_true_eq, decide_eq_false_iff_not, Bool.not_eq_true', Bool.not_eq_false'] at hil
        have hf : kck k = true := kck_yes hm hm8 (fun j h1 h2 => hz j h1 (by omega))
        rw [hf]
        refine c_false rfl ?_
        refine c_exit ?_
        refine k_then_exit ?_
        refine k_then_exit ?_
        refine k_block_exit ?_
        refine k_then ?_
        refine c_seq ?_
        refine c_region _ rfl ?_
        refine l_q rfl (q_assign rfl rfl) rfl rfl ?_
        refine l_nil ?_
        refine k_then ?_
        refine c_ret ?_
        refine r_one rfl rfl ?_
        exact fun _ h => ⟨(), rfl, trivial, h.nothing⟩
end Go.Proofs.Ytmnokoepimhelaa
