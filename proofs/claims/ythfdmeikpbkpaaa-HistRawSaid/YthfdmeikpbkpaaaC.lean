/- values: Check; histories: may an operation be answered so? -/
import Derived.Test.YthfdmeikpbkpaaaB
set_option linter.unusedVariables false
set_option linter.unusedSimpArgs false
namespace Go.Proofs.Ythfdmeikpbkpaaa
open Go.Sep Go.RowKit

def vmk (l : List Int) (hl : l.length ≤ 16) (hb : ∀ x ∈ l, (Lit.int .u8 x).wf = true) : Kv 16 := ⟨l.length, l ++ List.replicate (16 - l.length) 0, by simp; omega, wf_n8 (by omega), fun x hx => by
  rcases List.mem_append.1 hx with hx | hx
  · exact hb x hx
  · rw [(List.mem_replicate.1 hx).2]; decide⟩
theorem kv16_len {n : Int} {h : (Lit.int .i64 n).wf = true} : (kz 16 n h).c.length = 17 := Kv.c_len _
theorem vput {l : List Int} (hl : l.length ≤ 16) (hb : ∀ x ∈ l, (Lit.int .u8 x).wf = true) : Sep.splice (kz 16 (l.length : Int) (wf_n8 (by omega))).c 1 ((encI .u8).flat l) = (vmk l hl hb).c := by
  rw [flat_u8, Sep.splice_eq _ _ _ (by simp [Kv.c, kz]; omega)]
  simp only [List.length_map, Kv.c, kz, vmk, List.map_append, List.map_replicate]
  rw [Nat.add_comm 1 l.length, List.take_succ_cons, List.take_zero, List.drop_succ_cons, List.drop_replicate]
  rfl
theorem vcut_mk (k : Kv 16) {n : Nat} (h : n ≤ 16) : vmk (k.b.take n) (by simp; omega) (fun x hx => k.wb x (List.mem_of_mem_take hx)) = vcut k n h := by
  have hl : (k.b.take n).length = n := by simp [k.len]; omega
  refine Kv.ext' ?_ ?_
  · show (((k.b.take n).length : Nat) : Int) = (n : Int); rw [hl]
  · show _ ++ List.replicate (16 - (k.b.take n).length) 0 = _ ++ List.replicate (16 - n) 0; rw [hl]
theorem vpart (k : Kv 16) {m : Nat} (h : m ≤ 16) : (k.c.drop 1).take (m * (encI .u8).sz) = (encI .u8).flat (k.b.take m) := by
  rw [flat_u8]
  show ((k.b.map (Value.int .u8))).take (m * 1) = _
  rw [Nat.mul_one, List.map_take]
def kv0 (m : Nat) : Kv m := ⟨0, List.replicate m 0, by simp, by decide, fun x h => by rw [(List.mem_replicate.1 h).2]; decide⟩
set_option maxRecDepth 100000 in
set_option maxHeartbeats 1000000 in
theorem vof_spec {va : Value} (l : List Int) (hn : l.length ≤ 16) (hb : ∀ x ∈ l, (Lit.int .u8 x).wf = true) : Con Try.prog 38 [va] (fun w => RdV w va (encI .u8) l) [] (fun _ : Unit => .agg (vmk l hn hb).c.toArray) (fun _ => True) (fun _ => []) := by
  intro w hl hH
  refine enter (n := 12) (vs := [va]) (St w [] []) Try.func38 rfl rfl rfl (St.init hH) ?_
  refine c_seq ?_
  refine c_region _ rfl ?_
  refine l_e rfl ?_
  refine e_alloc rfl rfl rfl Try.zeroValue43 ?_
  intro br
  refine cells_eq (show _ = (kv0 16).c from rfl) ?_
  refine l_nil ?_
  refine k_then ?_
  refine c_seq ?_
  refine c_region _ rfl ?_
  refine l_q rfl (q_move rfl rfl) rfl rfl ?_
  refine l_q rfl (q_lenV rfl Try.underlying66 rfl (fun _ h => hl.keep h (by simp [dom]))) rfl rfl ?_
  refine l_q rfl (q_build ((kz 16 (l.length : Int) (wf_n8 (by omega))).c) rfl rfl (fun w => by kernel_rfl)) rfl rfl ?_
  refine l_e rfl ?_
  refine e_alloc rfl rfl rfl Try.zeroValue43 ?_
  intro bv
  refine cells_eq (show _ = (kv0 16).c from rfl) ?_
  refine l_e rfl ?_
  refine e_storeAgg rfl rfl Try.sizeOf43 rfl rfl (Kv.c_len _) (Kv.one _) (by simp only [Kv.c_len]; decide) ?_
  refine cells_eq (show Sep.splice _ 0 ((kz 16 (l.length : Int) (wf_n8 (by omega)))).c = ((kz 16 (l.length : Int) (wf_n8 (by omega)))).c from Sep.splice_all (by simp only [Kv.c_len])) ?_
  refine l_nil ?_
  refine k_then ?_
  refine c_seq ?_
  refine c_region _ rfl ?_
  refine l_q rfl (q_fieldAddr rfl Try.underlying43 rfl Try.sizeOf41 rfl rfl) rfl rfl ?_
  refine l_q rfl (q_sliceArr rfl Try.underlying41 Try.sizeOf5 rfl) rfl rfl ?_
  refine l_q rfl (q_move rfl rfl) rfl rfl ?_
  refine l_e rfl ?_
  refine e_copy (E := (encI .u8)) (l := l) rfl rfl rfl Try.underlying66 Try.sizeOf5 rfl rfl (fun _ h => hl.keep h (by simp [dom])) (by simp [Kv.c_len, encI]; omega) ?_
  refine cells_eq (show _ = (vmk l hn hb).c from by rw [show l.take _ = l from List.take_of_length_le (by first | omega | (simp; omega))]; exact vput hn hb) ?_
  refine l_nil ?_
  refine k_then ?_
  refine c_seq ?_
  refine c_region _ rfl ?_
  refine l_q rfl (q_loadCAgg ((vmk l hn hb).c) rfl Try.isAgg43 Try.sizeOf43 rfl (fun _ h => h.at 0 rfl) (kv_whole _) (Kv.c_len _)) rfl rfl ?_
  refine pull1 ?_
  refine l_e rfl ?_
  refine e_storeAgg rfl rfl Try.sizeOf43 rfl rfl (Kv.c_len _) (Kv.one _) (by simp only [Kv.c_len]; decide) ?_
  refine cells_eq (show Sep.splice _ 0 ((vmk l hn hb)).c = ((vmk l hn hb)).c from Sep.splice_all (by simp only [Kv.c_len])) ?_
  refine l_nil ?_
  refine k_then ?_
  refine c_ret ?_
  refine r_res1 rfl (res_cellA rfl Try.isAgg43 Try.sizeOf43 (fun _ h => h.at 0 rfl) (Kv.c_len _)) ?_
  exact fun _ h => ⟨(), rfl, trivial, h.nothing⟩
set_option maxRecDepth 100000 in
set_option maxHeartbeats 1000000 in
theorem vcheck_spec (k : Kv 16) : Con Try.prog 34 [.agg k.c.toArray] (fun _ => True) [] (fun _ : Unit => .bool (vck k)) (fun _ => True) (fun _ => []) := by
  intro w hE hH
  refine enter (n := 20) (vs := [.agg k.c.toArray]) (St w [] []) Try.func34 rfl rfl rfl (St.init hH) ?_
  refine c_seq ?_
  refine c_region _ rfl ?_
  refine l_e rfl ?_
  refine e_box rfl rfl rfl rfl ?_
  intro bk
  refine cells_eq (show _ = k.c from rfl) ?_
  refine l_q rfl (q_assign rfl rfl) rfl rfl ?_
  refine l_nil ?_
  refine k_then ?_
  refine c_seq ?_
  refine c_draw [(0, some true), (1, some true), (2, some true), (3, some true), (4, some true), (5, some true), (6, some true), (7, some true), (8, some true), (9, some true), (10, some true), (11, some true), (12, some true), (14, some true), (13, some false), (15, some true), (16, some true), (17, some true)] [] [(_, some true), (_, some true), (_, some true), (_, some true), (_, some true), (_, some true), (_, some true), (_, some true), (_, some true), (_, some true), (_, some true), (_, some true), (_, some true), (_, some true), (_, some false), (_, some true), (_, some true), (_, some true)] _ (blind_then blind_body) rfl (by kernel_rfl) (by kernel_rfl) rfl rfl rfl (by kernel_rfl) St.drawn (fun _ h => h) ?_
  refine d_q rfl (q_fieldAddr rfl Try.underlying43 rfl Try.sizeOf3 rfl rfl) rfl rfl ?_
  refine d_q rfl (q_loadC rfl Try.isAgg3 rfl (fun _ h => h.at 0 rfl) rfl) rfl rfl ?_
  refine d_q rfl (q_geq rfl rfl rfl) rfl rfl ?_
  refine d_q rfl (q_move rfl rfl) rfl rfl ?_
  refine Pre.caseB 6 rfl (fun h1 => ?_) (fun h1 => ?_)
  · try simp only [decide_eq_true_eq, decide_eq_false_iff_not, Bool.not_eq_true', Bool.not_eq_false'] at h1
    refine d_q rfl (q_fieldAddr rfl Try.underlying43 rfl Try.sizeOf3 rfl rfl) rfl rfl ?_
    refine d_q rfl (q_loadC rfl Try.isAgg3 rfl (fun _ h => h.at 0 rfl) rfl) rfl rfl ?_
    refine d_q rfl (q_leq rfl rfl rfl) rfl rfl ?_
    refine d_q rfl (q_pick_t rfl rfl rfl) rfl rfl ?_
    refine d_q rfl (q_move rfl rfl) rfl rfl ?_
    refine Pre.caseB 11 rfl (fun h2 => ?_) (fun h2 => ?_)
    · try simp only [decide_eq_true_eq, decide_eq_false_iff_not, Bool.not_eq_true', Bool.not_eq_false'] at h2
      obtain ⟨m, hm, hm16⟩ : ∃ m : Nat, k.n = (m : Int) ∧ m ≤ 16 := ⟨k.n.toNat, by omega, by omega⟩
      refine d_q rfl (q_fieldAddr rfl Try.underlying43 rfl Try.sizeOf41 rfl rfl) rfl rfl ?_
      refine d_q rfl (q_fieldAddr rfl Try.underlying43 rfl Try.sizeOf3 rfl rfl) rfl rfl ?_
      refine d_q rfl (q_loadC rfl Try.isAgg3 rfl (fun _ h => h.at 0 rfl) rfl) rfl rfl ?_
      refine d_q rfl (q_sliceArrH m rfl Try.underlying41 Try.sizeOf5 rfl rfl hm (by omega)) rfl rfl ?_
      refine d_q rfl (q_loadCAgg (k.c) rfl Try.isAgg43 Try.sizeOf43 rfl (fun _ h => h.at 0 rfl) (kv_whole _) (Kv.c_len _)) rfl rfl ?_
      refine d_e rfl ?_
      refine e_call_00 (vof_spec (k.b.take m) (by simp; omega) (fun x hx => k.wb x (List.mem_of_mem_take hx))) rfl rfl rfl Try.call38 rfl (fun _ h => rd_part (h.at 0 rfl) (encI .u8) (k.b.take m) (by rw [List.length_take, k.len]; omega) (by omega) (vpart k hm16)) ?_
      intro _ _
      refine d_held (fun _ h => h) ?_
      refine d_q rfl (q_eqV ((vmk (k.b.take m) (by simp; omega) (fun x hx => k.wb x (List.mem_of_mem_take hx)))) (k) rfl rfl rfl) rfl rfl ?_
      refine d_q rfl (q_pick_t rfl rfl rfl) rfl rfl ?_
      refine d_q rfl (q_assign rfl rfl) rfl rfl ?_
      refine d_nil ?_
      refine k_then ?_
      refine c_ret ?_
      refine r_one rfl rfl ?_
      exact fun _ h => ⟨(), congrArg (fun z => Ending.returned (Value.bool z)) (by rw [vcut_mk k hm16]; exact vcut_eq k hm hm16), trivial, h.nothing⟩
    · try simp only [decide_eq_true_eq, decide_eq_false_iff_not, Bool.not_eq_true', Bool.not_eq_false'] at h2
      rw [vck_hi (by omega)]
      refine d_not rfl rfl rfl ?_
      refine d_not rfl rfl rfl ?_
      refine d_not rfl rfl rfl ?_
      refine d_not rfl rfl rfl ?_
      refine d_not rfl rfl rfl ?_
      refine d_not rfl rfl rfl ?_
      refine d_not rfl rfl rfl ?_
      refine d_q rfl (q_pick_f rfl rfl rfl) rfl rfl ?_
      refine d_q rfl (q_assign rfl rfl) rfl rfl ?_
      refine d_nil ?_
      refine k_then ?_
      refine c_ret ?_
      refine r_one rfl rfl ?_
      exact fun _ h => ⟨(), congrArg (fun z => Ending.returned (Value.bool z)) (rfl), trivial, h.nothing⟩
  · try simp only [decide_eq_true_eq, decide_eq_false_iff_not, Bool.not_eq_true', Bool.not_eq_false'] at h1
    rw [vck_lo (by omega)]
    refine d_not rfl rfl rfl ?_
    refine d_not rfl rfl rfl ?_
    refine d_not rfl rfl rfl ?_
    refine d_q rfl (q_pick_f rfl rfl rfl) rfl rfl ?_
    refine d_q rfl (q_move rfl rfl) rfl rfl ?_
    refine d_not rfl rfl rfl ?_
    refine d_not rfl rfl rfl ?_
    refine d_not rfl rfl rfl ?_
    refine d_not rfl rfl rfl ?_
    refine d_not rfl rfl rfl ?_
    refine d_not rfl rfl rfl ?_
    refine d_not rfl rfl rfl ?_
    refine d_q rfl (q_pick_f rfl rfl rfl) rfl rfl ?_
    refine d_q rfl (q_assign rfl rfl) rfl rfl ?_
    refine d_nil ?_
    refine k_then ?_
    refine c_ret ?_
    refine r_one rfl rfl ?_
    exact fun _ h => ⟨(), congrArg (fun z => Ending.returned (Value.bool z)) (rfl), trivial, h.nothing⟩
set_option maxRecDepth 100000 in
set_option maxHeartbeats 1000000 in
theorem rvcheck_spec (k : Kv 16) : Con Try.prog 35 [.agg k.c.toArray] (fun _ => True) [] (fun _ : Unit => .bool (vck k)) (fun _ => True) (fun _ => []) := by
  intro w hE hH
  refine enter (n := 23) (vs := [.agg k.c.toArray]) (St w [] []) Try.func35 rfl rfl rfl (St.init hH) ?_
  refine c_seq ?_
  refine c_region _ rfl ?_
  refine l_e rfl ?_
  refine e_box rfl rfl rfl rfl ?_
  intro bk
  refine cells_eq (show _ = k.c from rfl) ?_
  refine l_q rfl (q_assign rfl rfl) rfl rfl ?_
  refine l_nil ?_
  refine k_then ?_
  refine c_seq ?_
  refine c_seq ?_
  refine c_region _ rfl ?_
  refine l_q rfl (q_fieldAddr rfl Try.underlying43 rfl Try.sizeOf3 rfl rfl) rfl rfl ?_
  refine l_q rfl (q_loadC rfl Try.isAgg3 rfl (fun _ h => h.at 0 rfl) rfl) rfl rfl ?_
  refine l_q rfl (q_lss rfl rfl rfl) rfl rfl ?_
  refine l_q rfl (q_move rfl rfl) rfl rfl ?_
  refine Pre.caseB 7 rfl (fun h1 => ?_) (fun h1 => ?_)
  · try simp only [decide_eq_true_eq, decide_eq_false_iff_not, Bool.not_eq_true', Bool.not_eq_false'] at h1
    rw [vck_lo h1]
    refine l_not rfl rfl rfl ?_
    refine l_not rfl rfl rfl ?_
    refine l_not rfl rfl rfl ?_
    refine l_q rfl (q_pick_t rfl rfl rfl) rfl rfl ?_
    refine l_nil ?_
    refine k_then ?_
    refine c_true rfl ?_
    refine c_seq ?_
    refine c_region _ rfl ?_
    refine l_q rfl (q_assign rfl rfl) rfl rfl ?_
    refine l_nil ?_
    refine k_then ?_
    refine c_ret ?_
    refine k_then_ret ?_
    refine r_one rfl rfl ?_
    exact fun _ h => ⟨(), congrArg (fun z => Ending.returned (Value.bool z)) (rfl), trivial, h.nothing⟩
  · try simp only [decide_eq_true_eq, decide_eq_false_iff_not, Bool.not_eq_true', Bool.not_eq_false'] at h1
    refine l_q rfl (q_fieldAddr rfl Try.underlying43 rfl Try.sizeOf3 rfl rfl) rfl rfl ?_
    refine l_q rfl (q_loadC rfl Try.isAgg3 rfl (fun _ h => h.at 0 rfl) rfl) rfl rfl ?_
    refine l_q rfl (q_gtr rfl rfl rfl) rfl rfl ?_
    refine l_q rfl (q_pick_f rfl rfl rfl) rfl rfl ?_
    refine l_nil ?_
    refine k_then ?_
    refine Pre.caseB 11 rfl (fun h2 => ?_) (fun h2 => ?_)
    · try simp only [decide_eq_true_eq, decide_eq_false_iff_not, Bool.not_eq_true', Bool.not_eq_false'] at h2
      rw [vck_hi h2]
      refine c_true rfl ?_
      refine c_seq ?_
      refine c_region _ rfl ?_
      refine l_q rfl (q_assign rfl rfl) rfl rfl ?_
      refine l_nil ?_
      refine k_then ?_
      refine c_ret ?_
      refine k_then_ret ?_
      refine r_one rfl rfl ?_
      exact fun _ h => ⟨(), congrArg (fun z => Ending.returned (Value.bool z)) (rfl), trivial, h.nothing⟩
    · try simp only [decide_eq_true_eq, decide_eq_false_iff_not, Bool.not_eq_true', Bool.not_eq_false'] at h2
      obtain ⟨m, hm, hm16⟩ : ∃ m : Nat, k.n = (m : Int) ∧ m ≤ 16 := ⟨k.n.toNat, by omega, by omega⟩
      refine c_false rfl ?_
      refine c_skip ?_
      refine k_then ?_
      refine c_seq ?_
      refine c_seq ?_
      refine c_region _ rfl ?_
      refine l_q rfl (q_fieldAddr rfl Try.underlying43 rfl Try.sizeOf3 rfl rfl) rfl rfl ?_
      refine l_q rfl (q_loadC rfl Try.isAgg3 rfl (fun _ h => h.at 0 rfl) rfl) rfl rfl ?_
      refine l_q rfl (q_assign rfl rfl) rfl rfl ?_
      refine l_nil ?_
      refine k_then ?_
      refine c_block ?_
      refine c_loop1 (fun (i : Nat) => [(1, .pointer (some ⟨bk, 0, none⟩)), (3, .int .i64 (i : Int))]) (fun (i : Nat) => St w [] [cellsE bk 43 k.c]) (fun (i : Nat) => i ≤ 16 ∧ m ≤ i ∧ ∀ j, m ≤ j → j < i → k.b.getD j 0 = 0) (fun (i : Nat) => 16 - i) (m) ⟨hm16, Nat.le_refl _, fun j h1 h2 => by omega⟩ (Sub.cons rfl (Sub.consE rfl (by rw [hm]) Sub.nil)) (fun _ h => h) ?_
      intro i hp
      refine c_seq ?_
      refine c_seq ?_
      obtain ⟨hi, hmi, hz⟩ := hp
      refine c_region _ rfl ?_
      refine l_q rfl (q_move rfl rfl) rfl rfl ?_
      refine l_q rfl (q_lss rfl rfl rfl) rfl rfl ?_
      refine l_nil ?_
      refine k_then ?_
      refine Pre.caseB 15 rfl (fun hil => ?_) (fun hil => ?_)
      · try simp only [decide_eq_true_eq, decide_eq_false_iff_not, Bool.not_eq_true', Bool.not_eq_false'] at hil
        refine c_true rfl ?_
        refine c_skip ?_
        refine k_then ?_
        refine c_seq ?_
        refine c_block ?_
        refine c_seq ?_
        refine c_region _ rfl ?_
        refine l_q rfl (q_move rfl rfl) rfl rfl ?_
        refine l_q rfl (q_fieldAddr rfl Try.underlying43 rfl Try.sizeOf41 rfl rfl) rfl rfl ?_
        refine l_q rfl (q_indexArr i rfl Try.underlying41 Try.sizeOf5 rfl rfl rfl (by omega)) rfl rfl ?_
        refine l_q rfl (q_loadC rfl Try.isAgg5 rfl (fun _ h => h.at 0 rfl) (kv_get k (by omega))) rfl rfl ?_
        refine l_q rfl (q_neq rfl rfl rfl) rfl rfl ?_
        refine l_nil ?_
        refine k_then ?_
        refine Pre.caseB 22 rfl (fun hne => ?_) (fun hne => ?_)
        · try simp only [decide_eq_true_eq, decide_eq_false_iff_not, Bool.not_eq_true', Bool.not_eq_false'] at hne
          have hf : vck k = false := vck_no (i := i) (by omega) (by omega) (by simpa using hne)
          rw [hf]
          refine c_true rfl ?_
          refine c_seq ?_
          refine c_region _ rfl ?_
          refine l_q rfl (q_assign rfl rfl) rfl rfl ?_
          refine l_nil ?_
          refine k_then ?_
          refine c_ret ?_
          refine k_block_ret ?_
          refine k_then_ret ?_
          refine k_then_ret ?_
          refine k_block_ret ?_
          refine k_then_ret ?_
          refine r_one rfl rfl ?_
          exact fun _ h => ⟨(), congrArg (fun z => Ending.returned (Value.bool z)) (rfl), trivial, h.nothing⟩
        · try simp only [decide_eq_true_eq, decide_eq_false_iff_not, Bool.not_eq_true', Bool.not_eq_false'] at hne
          refine c_false rfl ?_
          refine c_skip ?_
          refine k_block ?_
          refine k_then ?_
          refine c_region _ rfl ?_
          refine l_q rfl (q_move rfl rfl) rfl rfl ?_
          refine l_q rfl (q_inc rfl rfl rfl (by omega)) rfl rfl ?_
          refine l_q rfl (q_assign rfl rfl) rfl rfl ?_
          refine l_nil ?_
          exact k_round (i + 1) (by omega) ⟨by omega, by omega, fun j h1 h2 => by
              rcases Nat.lt_succ_iff_lt_or_eq.1 h2 with h3 | rfl
              · exact hz j h1 h3
              · simpa using hne⟩ (Sub.cons rfl (Sub.cons rfl (Sub.nil))) (fun _ h => h)
      · try simp only [decide_eq_true_eq, decide_eq_false_iff_not, Bool.not_eq_true', Bool.not_eq_false'] at hil
        have hf : vck k = true := vck_yes hm hm16 (fun j h1 h2 => hz j h1 (by omega))
        rw [hf]
        refine c_false rfl ?_
        refine c_exit ?_
        refine k_then_exit ?_
        refine k_then_exit ?_
        refine k_block_exit ?_
        refine k_then ?_
        refine c_seq ?_
        refine c_region _ rfl ?_
        refine l_q rfl (q_assign rfl rfl) rfl rfl ?_
        refine l_nil ?_
        refine k_then ?_
        refine c_ret ?_
        refine r_one rfl rfl ?_
        exact fun _ h => ⟨(), congrArg (fun z => Ending.returned (Value.bool z)) (rfl), trivial, h.nothing⟩
end Go.Proofs.Ythfdmeikpbkpaaa
