/- a leaf of one number -/
import Derived.Test.YtpfbagkjhchojaaZ
set_option linter.unusedVariables false
set_option linter.unusedSimpArgs false
namespace Go.Proofs.Ytpfbagkjhchojaa
open Go.Sep Go.RowKit

set_option maxRecDepth 100000 in
set_option maxHeartbeats 1000000 in
theorem put_one {va : Value} (k : Kv 8) (v : Kv 16) : Con Try.prog 80 [va, .agg (mC k v).toArray] (fun w => RdV w va En.enc []) [] (fun v2 : Value => v2) (fun _ => True) (fun v2 => [rowE v2 121 En.enc [(⟨k, v⟩ : En)]]) := by
  intro w hl hH
  refine enter (n := 77) (vs := [va, .agg (mC k v).toArray]) (St w [] []) Try.func80 rfl rfl rfl (St.init hH) ?_
  refine c_seq ?_
  refine c_region _ rfl ?_
  refine l_e rfl ?_
  refine e_box rfl rfl rfl rfl ?_
  intro bm
  refine cells_eq (show _ = mC k v from rfl) ?_
  refine l_q rfl (q_assign rfl rfl) rfl rfl ?_
  refine l_nil ?_
  refine k_then ?_
  refine c_seq ?_
  refine c_region _ rfl ?_
  refine l_q rfl (q_move rfl rfl) rfl rfl ?_
  refine l_q rfl (q_fieldAddr rfl Try.underlying127 rfl Try.sizeOf116 rfl rfl) rfl rfl ?_
  refine l_q rfl (q_loadCAgg (k.c) rfl Try.isAgg116 Try.sizeOf116 rfl (fun _ h => h.at 0 rfl) (mC_key _ _) (Kv.c_len _)) rfl rfl ?_
  refine l_e rfl ?_
  refine e_call_00 (find_none k) rfl rfl rfl Try.call93 rfl (fun _ h => hl.keep h (by simp [dom])) ?_
  intro _ _
  refine l_q rfl (q_move rfl rfl) rfl rfl ?_
  refine l_q rfl (q_extract rfl rfl rfl) rfl rfl ?_
  refine l_q rfl (q_extract rfl rfl rfl) rfl rfl ?_
  refine l_e rfl ?_
  refine e_alloc rfl rfl rfl Try.zeroValue119 ?_
  intro ba
  refine cells_eq (show _ = (kv0 16).c from rfl) ?_
  refine l_e rfl ?_
  refine e_storeAgg rfl rfl Try.sizeOf119 rfl rfl (Kv.c_len _) (Kv.one _) (by simp only [Kv.c_len]; decide) ?_
  refine cells_eq (show Sep.splice _ 0 ((kv0 16)).c = ((kv0 16)).c from Sep.splice_all (by simp only [Kv.c_len])) ?_
  refine l_q rfl (q_assign rfl rfl) rfl rfl ?_
  refine l_nil ?_
  refine k_then ?_
  refine c_seq ?_
  refine c_region _ rfl ?_
  refine l_q rfl (q_loadCAgg ((kv0 16).c) rfl Try.isAgg119 Try.sizeOf119 rfl (fun _ h => h.at 0 rfl) (kv_whole _) (Kv.c_len _)) rfl rfl ?_
  refine l_q rfl (q_move rfl rfl) rfl rfl ?_
  refine l_q rfl (q_loadCAgg ((mC k v)) rfl Try.isAgg127 Try.sizeOf127 rfl (fun _ h => h.at 1 rfl) (mC_whole _ _) (mC_len _ _)) rfl rfl ?_
  refine l_e rfl ?_
  refine e_call_00 (apply_put (kv0 16) k v) rfl rfl rfl Try.call94 rfl (fun _ _ => trivial) ?_
  intro _ _
  refine l_q rfl (q_move rfl rfl) rfl rfl ?_
  refine l_q rfl (q_extract rfl rfl rfl) rfl rfl ?_
  refine l_q rfl (q_extract rfl rfl rfl) rfl rfl ?_
  refine l_e rfl ?_
  refine e_alloc rfl rfl rfl Try.zeroValue119 ?_
  intro bb
  refine cells_eq (show _ = (kv0 16).c from rfl) ?_
  refine l_e rfl ?_
  refine e_storeAgg rfl rfl Try.sizeOf119 rfl rfl (Kv.c_len _) (Kv.one _) (by simp only [Kv.c_len]; decide) ?_
  refine cells_eq (show Sep.splice _ 0 (v).c = (v).c from Sep.splice_all (by simp only [Kv.c_len])) ?_
  refine l_q rfl (q_assign rfl rfl) rfl rfl ?_
  refine l_nil ?_
  refine k_then ?_
  refine c_seq ?_
  refine c_region _ rfl ?_
  refine l_q rfl (q_assign rfl rfl) rfl rfl ?_
  refine l_nil ?_
  refine k_then ?_
  refine c_seq ?_
  refine c_region _ rfl ?_
  refine l_q rfl (q_assign rfl rfl) rfl rfl ?_
  refine l_nil ?_
  refine k_then ?_
  refine c_seq ?_
  refine c_seq ?_
  refine c_region _ rfl ?_
  refine l_q rfl (q_assign rfl rfl) rfl rfl ?_
  refine l_nil ?_
  refine k_then ?_
  refine c_block ?_
  refine pull2 ?_
  refine pull2 ?_
  refine pull2 ?_
  refine c_loop1 (fun (i : Nat) => [(0, va), (3, .pointer (some ⟨bm, 0, none⟩)), (7, .pointer (some ⟨bb, 0, none⟩)), (8, .bool true), (9, .slice none 0 0), (10, .bool false), (11, .int .i64 (i : Int))]) (fun (i : Nat) => St w [] [cellsE bb 119 v.c, cellsE ba 119 (kv0 16).c, cellsE bm 127 (mC k v)]) (fun (i : Nat) => True) (fun (i : Nat) => 1 - i) (0) trivial (Sub.cons rfl (Sub.cons rfl (Sub.cons rfl (Sub.cons rfl (Sub.cons rfl (Sub.cons rfl (Sub.cons rfl (Sub.nil)))))))) (fun _ h => h) ?_
  intro i _
  refine c_seq ?_
  refine c_seq ?_
  refine c_region _ rfl ?_
  refine l_q rfl (q_move rfl rfl) rfl rfl ?_
  refine l_q rfl (q_move rfl rfl) rfl rfl ?_
  refine l_q rfl (q_lenV rfl Try.underlying33 rfl (fun _ h => hl.keep h (by simp [dom]))) rfl rfl ?_
  refine l_q rfl (q_lss rfl rfl rfl) rfl rfl ?_
  refine l_nil ?_
  refine k_then ?_
  refine Pre.setB (t := 30) (c := false) rfl (decide_eq_false (by simp only [List.length_nil]; omega)) ?_
  refine c_false rfl ?_
  refine c_exit ?_
  refine k_then_exit ?_
  refine k_then_exit ?_
  refine k_block_exit ?_
  refine k_then ?_
  refine c_seq ?_
  refine c_seq ?_
  refine c_region _ rfl ?_
  refine l_q rfl (q_move rfl rfl) rfl rfl ?_
  refine l_q rfl (q_not rfl rfl) rfl rfl ?_
  refine l_q rfl (q_move rfl rfl) rfl rfl ?_
  refine row0 121 En.enc none ?_
  refine Pre.setB (t := 66) (c := true) rfl (rfl) ?_
  refine l_q rfl (q_move rfl rfl) rfl rfl ?_
  refine l_q rfl (q_pick_t rfl rfl rfl) rfl rfl ?_
  refine l_nil ?_
  refine k_then ?_
  refine Pre.setB (t := 68) (c := true) rfl (rfl) ?_
  refine c_true rfl ?_
  refine c_region _ rfl ?_
  refine l_q rfl (q_move rfl rfl) rfl rfl ?_
  refine l_q rfl (q_fieldAddr rfl Try.underlying127 rfl Try.sizeOf116 rfl rfl) rfl rfl ?_
  refine l_q rfl (q_loadCAgg (k.c) rfl Try.isAgg116 Try.sizeOf116 rfl (fun _ h => h.at 3 rfl) (mC_key _ _) (Kv.c_len _)) rfl rfl ?_
  refine l_q rfl (q_loadCAgg (v.c) rfl Try.isAgg119 Try.sizeOf119 rfl (fun _ h => h.at 1 rfl) (kv_whole _) (Kv.c_len _)) rfl rfl ?_
  refine l_q rfl (q_build ((⟨k, v⟩ : En).c) rfl rfl (build_en k v)) rfl rfl ?_
  refine l_e rfl ?_
  refine e_buildSliceV (sz := 26) [.tmp 73] rfl rfl rfl rfl rfl Try.underlying33 Try.sizeOf121 rfl Try.zeroValue121 (by simp [Value.cells, En.c_len]) ?_
  intro b1
  refine pull1 ?_
  refine l_e rfl ?_
  refine e_append rfl rfl rfl Try.underlying33 Try.underlying33 info121 rfl rfl rfl rfl rfl (fun _ h => lit_rd (h.at 1 rfl) En.enc [(⟨k, v⟩ : En)] rfl rfl) (by simp only [byt121, List.length_append, List.length_cons, List.length_nil]; omega) (by simp only [List.length_append, List.length_cons, List.length_nil]; omega) ?_
  intro v2
  refine row_eq (show _ = [(⟨k, v⟩ : En)] from rfl) ?_
  refine pull1 ?_
  refine drop0 ?_
  refine l_q rfl (q_assign rfl rfl) rfl rfl ?_
  refine l_nil ?_
  refine k_then ?_
  refine c_seq ?_
  refine c_region _ rfl ?_
  refine l_q rfl (q_move rfl rfl) rfl rfl ?_
  refine l_q rfl (q_assign rfl rfl) rfl rfl ?_
  refine l_nil ?_
  refine k_then ?_
  refine c_ret ?_
  refine pull1 ?_
  refine drop0 ?_
  refine pull1 ?_
  refine drop0 ?_
  refine pull1 ?_
  refine drop0 ?_
  refine r_one rfl rfl ?_
  exact fun _ h => ⟨v2, rfl, trivial, h⟩
set_option maxRecDepth 100000 in
set_option maxHeartbeats 1000000 in
theorem bytes_one {va : Value} (e : En) (hk : 0 ≤ e.key.n ∧ e.key.n ≤ 8) (hv : 0 ≤ e.val.n ∧ e.val.n ≤ 16) : Con Try.prog 83 [va] (fun w => RdV w va En.enc [e]) [] (fun n : Int => .int .i64 n) (fun n => n ≤ 248) (fun _ => []) := by
  intro w hl hH
  refine enter (n := 28) (vs := [va]) (St w [] []) Try.func83 rfl rfl rfl (St.init hH) ?_
  refine c_seq ?_
  refine c_region _ rfl ?_
  refine l_q rfl (q_assign rfl rfl) rfl rfl ?_
  refine l_nil ?_
  refine k_then ?_
  refine c_seq ?_
  refine c_region _ rfl ?_
  refine l_q rfl (q_assign rfl rfl) rfl rfl ?_
  refine l_nil ?_
  refine k_then ?_
  refine c_seq ?_
  refine c_seq ?_
  refine c_region _ rfl ?_
  refine l_q rfl (q_assign rfl rfl) rfl rfl ?_
  refine l_nil ?_
  refine k_then ?_
  refine c_block ?_
  refine c_loop2 (fun (i : Nat) (n : Int) => [(0, va), (3, .int .i64 n), (4, .int .i64 (i : Int))]) (fun (i : Nat) (n : Int) => St w [] []) (fun (i : Nat) (n : Int) => i ≤ 1 ∧ 0 ≤ n ∧ n ≤ 26 * (i : Int)) (fun (i : Nat) (n : Int) => 1 - i) (0) (0) ⟨Nat.zero_le _, by decide, by decide⟩ (Sub.cons rfl (Sub.cons rfl (Sub.cons rfl (Sub.nil)))) (fun _ h => h) ?_
  intro i n hp
  refine c_seq ?_
  refine c_seq ?_
  obtain ⟨hi, hn0, hn1⟩ := hp
  have hl1 : [e].length = 1 := rfl
  refine c_region _ rfl ?_
  refine l_q rfl (q_move rfl rfl) rfl rfl ?_
  refine l_q rfl (q_move rfl rfl) rfl rfl ?_
  refine l_q rfl (q_lenV rfl Try.underlying33 rfl (fun _ h => hl.keep h (by simp [dom]))) rfl rfl ?_
  refine l_q rfl (q_lss rfl rfl rfl) rfl rfl ?_
  refine l_nil ?_
  refine k_then ?_
  refine Pre.caseB 8 rfl (fun h1 => ?_) (fun h1 => ?_)
  · try simp only [decide_eq_true_eq, decide_eq_false_iff_not, Bool.not_eq_true', Bool.not_eq_false'] at h1
    have hei : [e][i]? = some e := by rw [show i = 0 from by omega]; rfl
    refine c_true rfl ?_
    refine c_skip ?_
    refine k_then ?_
    refine c_seq ?_
    refine c_block ?_
    refine c_draw [(0, some true), (1, some true), (2, some true), (3, some true), (4, some true), (5, some true), (6, some true), (7, some true), (8, some true), (9, some true), (10, some true), (11, some true), (12, some true), (13, some true), (14, some true), (15, some true), (16, some true)] [] [(_, some true), (_, some true), (_, some true), (_, some true), (_, some true), (_, some true), (_, some true), (_, some true), (_, some true), (_, some true), (_, some true), (_, some true), (_, some true), (_, some true), (_, some true), (_, some true), (_, some true)] _ (blind_block (blind_then (blind_then (blind_block (blind_then blind_body))))) rfl (by kernel_rfl) (by kernel_rfl) rfl rfl rfl (by kernel_rfl) St.drawn (fun _ h => h) ?_
    refine d_q rfl (q_move rfl rfl) rfl rfl ?_
    refine d_q rfl (q_add64 rfl rfl rfl (by omega)) rfl rfl ?_
    refine d_q rfl (q_move rfl rfl) rfl rfl ?_
    refine d_q rfl (q_move rfl rfl) rfl rfl ?_
    refine d_q rfl (q_indexV i rfl Try.underlying33 Try.sizeOf121 rfl (fun _ h => hl.keep h (by simp [dom])) rfl rfl (by omega)) rfl rfl ?_
    refine d_q rfl (q_fieldAddr rfl Try.underlying121 rfl Try.sizeOf116 rfl rfl) rfl rfl ?_
    refine d_q rfl (q_fieldAddr rfl Try.underlying116 rfl Try.sizeOf3 rfl rfl) rfl rfl ?_
    refine d_q rfl (q_loadV i 0 rfl Try.isAgg3 rfl rfl (fun _ h => hl.keep h (by simp [dom])) hei rfl) rfl rfl ?_
    refine d_q rfl (q_add64 rfl rfl rfl (by omega)) rfl rfl ?_
    refine d_q rfl (q_move rfl rfl) rfl rfl ?_
    refine d_q rfl (q_move rfl rfl) rfl rfl ?_
    refine d_q rfl (q_indexV i rfl Try.underlying33 Try.sizeOf121 rfl (fun _ h => hl.keep h (by simp [dom])) rfl rfl (by omega)) rfl rfl ?_
    refine d_q rfl (q_fieldAddr rfl Try.underlying121 rfl Try.sizeOf119 rfl rfl) rfl rfl ?_
    refine d_q rfl (q_fieldAddr rfl Try.underlying119 rfl Try.sizeOf3 rfl rfl) rfl rfl ?_
    refine d_q rfl (q_loadV i 9 rfl Try.isAgg3 rfl rfl (fun _ h => hl.keep h (by simp [dom])) hei (val_n _)) rfl rfl ?_
    refine d_q rfl (q_add64 rfl rfl rfl (by omega)) rfl rfl ?_
    refine d_q rfl (q_assign rfl rfl) rfl rfl ?_
    refine d_nil ?_
    refine k_block ?_
    refine k_then ?_
    refine c_region _ rfl ?_
    refine l_q rfl (q_move rfl rfl) rfl rfl ?_
    refine l_q rfl (q_inc rfl rfl rfl (by omega)) rfl rfl ?_
    refine l_q rfl (q_assign rfl rfl) rfl rfl ?_
    refine l_nil ?_
    exact k_round ((i + 1, n + 2 + e.key.n + e.val.n)) (by dsimp only; omega) ⟨by dsimp only; omega, by dsimp only; omega, by dsimp only; omega⟩ (Sub.cons rfl (Sub.cons rfl (Sub.cons rfl (Sub.nil)))) (fun _ h => h)
  · try simp only [decide_eq_true_eq, decide_eq_false_iff_not, Bool.not_eq_true', Bool.not_eq_false'] at h1
    refine c_false rfl ?_
    refine c_exit ?_
    refine k_then_exit ?_
    refine k_then_exit ?_
    refine k_block_exit ?_
    refine k_then ?_
    refine c_seq ?_
    refine c_region _ rfl ?_
    refine l_q rfl (q_move rfl rfl) rfl rfl ?_
    refine l_q rfl (q_assign rfl rfl) rfl rfl ?_
    refine l_nil ?_
    refine k_then ?_
    refine c_ret ?_
    refine r_one rfl rfl ?_
    exact fun _ h => ⟨n, rfl, by omega, h⟩
set_option maxRecDepth 100000 in
set_option maxHeartbeats 1000000 in
theorem entries_one {vx : Value} (z : Int) : Con Try.prog 51 [vx, .int .i64 248] (fun w => RdV w vx (encI .i64) [z]) [] (fun r : Value × En => r.1) (fun _ => True) (fun r => [rowE r.1 121 En.enc [r.2]]) := by
  intro w hx hH
  refine enter (n := 38) (vs := [vx, .int .i64 248]) (St w [] []) Try.func51 rfl rfl rfl (St.init hH) ?_
  refine c_seq ?_
  refine c_region _ rfl ?_
  refine l_q rfl (q_assign rfl rfl) rfl rfl ?_
  refine l_nil ?_
  refine k_then ?_
  refine c_seq ?_
  refine c_region _ rfl ?_
  refine l_q rfl (q_assign rfl rfl) rfl rfl ?_
  refine l_nil ?_
  refine k_then ?_
  refine c_seq ?_
  refine c_seq ?_
  refine c_region _ rfl ?_
  refine l_q rfl (q_assign rfl rfl) rfl rfl ?_
  refine l_nil ?_
  refine k_then ?_
  refine c_block ?_
  refine row0 121 En.enc none ?_
  refine c_loop3 (fun (i : Nat) (v : Value) (l : List En) => [(0, vx), (1, .int .i64 248), (5, v), (6, .int .i64 (i : Int))]) (fun (i : Nat) (v : Value) (l : List En) => St w [] [rowE v 121 En.enc l]) (fun (i : Nat) (v : Value) (l : List En) => i ≤ 1 ∧ l.length = i) (fun (i : Nat) (v : Value) (l : List En) => 1 - i) (0) (.slice none 0 0) ([]) ⟨Nat.zero_le _, rfl⟩ (Sub.cons rfl (Sub.cons rfl (Sub.cons rfl (Sub.cons rfl (Sub.nil))))) (fun _ h => h) ?_
  intro i v l hp
  refine c_seq ?_
  refine c_seq ?_
  obtain ⟨hi, hll⟩ := hp
  have hl1 : [z].length = 1 := rfl
  refine c_region _ rfl ?_
  refine l_q rfl (q_move rfl rfl) rfl rfl ?_
  refine l_q rfl (q_move rfl rfl) rfl rfl ?_
  refine l_q rfl (q_lenV rfl Try.underlying28 rfl (fun _ h => hx.keep h (by simp [dom]))) rfl rfl ?_
  refine l_q rfl (q_lss rfl rfl rfl) rfl rfl ?_
  refine l_q rfl (q_move rfl rfl) rfl rfl ?_
  refine Pre.caseB 13 rfl (fun h1 => ?_) (fun h1 => ?_)
  · try simp only [decide_eq_true_eq, decide_eq_false_iff_not, Bool.not_eq_true', Bool.not_eq_false'] at h1
    have hz : [z][i]? = some z := by rw [show i = 0 from by omega]; rfl
    have hl0 : l = [] := List.eq_nil_of_length_eq_zero (by omega)
    refine l_q rfl (q_move rfl rfl) rfl rfl ?_
    refine l_q rfl (q_lss rfl rfl rfl) rfl rfl ?_
    refine l_q rfl (q_pick_t rfl rfl rfl) rfl rfl ?_
    refine l_nil ?_
    refine k_then ?_
    refine Pre.setB (t := 16) (c := true) rfl (decide_eq_true (by omega)) ?_
    refine c_true rfl ?_
    refine c_skip ?_
    refine k_then ?_
    refine c_seq ?_
    refine c_block ?_
    refine c_seq ?_
    refine c_region _ rfl ?_
    refine l_q rfl (q_move rfl rfl) rfl rfl ?_
    refine l_q rfl (q_move rfl rfl) rfl rfl ?_
    refine l_q rfl (q_indexV i rfl Try.underlying28 Try.sizeOf3 rfl (fun _ h => hx.keep h (by simp [dom])) rfl rfl (by omega)) rfl rfl ?_
    refine l_q rfl (q_loadV i 0 rfl Try.isAgg3 rfl rfl (fun _ h => hx.keep h (by simp [dom])) hz rfl) rfl rfl ?_
    refine l_e rfl ?_
    refine e_call_00 (plc_spec (z) 1099511627776 (by decide) (by decide)) rfl rfl rfl Try.call10 rfl (fun _ _ => trivial) ?_
    intro _ _
    refine l_q rfl (q_assign rfl rfl) rfl rfl ?_
    refine l_nil ?_
    refine k_then ?_
    refine c_seq ?_
    refine c_region _ rfl ?_
    refine l_q rfl (q_move rfl rfl) rfl rfl ?_
    refine l_q rfl (q_move rfl rfl) rfl rfl ?_
    obtain ⟨k, hk, hkb⟩ : ∃ k : Nat, z % 1099511627776 = (k : Int) ∧ k < 1099511627776 := ⟨(z % 1099511627776).toNat, by omega, by omega⟩
    refine Pre.setV (t := 7) (c := .int .i64 (k : Int)) rfl (by rw [hk]) ?_
    refine l_e rfl ?_
    refine e_call_00 (key_ex _) rfl rfl rfl Try.call81 rfl (fun _ _ => trivial) ?_
    intro kk hkk
    refine l_q rfl (q_move rfl rfl) rfl rfl ?_
    refine l_q rfl (q_quo_nn rfl rfl rfl (by omega) (by omega) (by omega)) rfl rfl ?_
    refine l_e rfl ?_
    refine e_call_00 (value_ex _) rfl rfl rfl Try.call82 rfl (fun _ _ => trivial) ?_
    intro vv hvv
    refine l_q rfl (q_build ((mC kk vv)) rfl rfl (build_mC kk vv)) rfl rfl ?_
    refine l_e rfl ?_
    refine e_call_01 (put_one kk vv) rfl rfl rfl Try.call80 rfl (fun _ h => by have h2 := h.rd 0 rfl; rw [hl0] at h2; exact h2) ?_
    intro v2 _
    refine l_q rfl (q_assign rfl rfl) rfl rfl ?_
    refine l_nil ?_
    refine k_then ?_
    refine c_seq ?_
    refine c_region _ rfl ?_
    refine l_q rfl (q_move rfl rfl) rfl rfl ?_
    refine l_e rfl ?_
    refine e_call_00 (bytes_one (⟨kk, vv⟩ : En) hkk hvv) rfl rfl rfl Try.call83 rfl (fun _ h => h.rd 0 rfl) ?_
    intro m hm
    refine l_q rfl (q_move rfl rfl) rfl rfl ?_
    refine l_q rfl (q_leq rfl rfl rfl) rfl rfl ?_
    refine l_nil ?_
    refine k_then ?_
    refine Pre.setB (t := 35) (c := true) rfl (decide_eq_true hm) ?_
    refine c_true rfl ?_
    refine c_region _ rfl ?_
    refine l_q rfl (q_move rfl rfl) rfl rfl ?_
    refine l_q rfl (q_assign rfl rfl) rfl rfl ?_
    refine l_nil ?_
    refine k_block ?_
    refine k_then ?_
    refine c_region _ rfl ?_
    refine l_q rfl (q_move rfl rfl) rfl rfl ?_
    refine l_q rfl (q_inc rfl rfl rfl (by omega)) rfl rfl ?_
    refine l_q rfl (q_assign rfl rfl) rfl rfl ?_
    refine l_nil ?_
    refine pull1 ?_
    refine drop0 ?_
    exact k_round ((i + 1, v2, [(⟨kk, vv⟩ : En)])) (by dsimp only; omega) ⟨by dsimp only; omega, by dsimp only; rw [show i = 0 from by omega]; rfl⟩ (Sub.cons rfl (Sub.cons rfl (Sub.cons rfl (Sub.cons rfl (Sub.nil))))) (fun _ h => h)
  · try simp only [decide_eq_true_eq, decide_eq_false_iff_not, Bool.not_eq_true', Bool.not_eq_false'] at h1
    obtain ⟨e, rfl⟩ : ∃ e, l = [e] := List.length_eq_one_iff.1 (by omega)
    refine l_not rfl rfl rfl ?_
    refine l_not rfl rfl rfl ?_
    refine l_q rfl (q_pick_f rfl rfl rfl) rfl rfl ?_
    refine l_nil ?_
    refine k_then ?_
    refine c_false rfl ?_
    refine c_exit ?_
    refine k_then_exit ?_
    refine k_then_exit ?_
    refine k_block_exit ?_
    refine k_then ?_
    refine c_seq ?_
    refine c_region _ rfl ?_
    refine l_q rfl (q_move rfl rfl) rfl rfl ?_
    refine l_q rfl (q_assign rfl rfl) rfl rfl ?_
    refine l_nil ?_
    refine k_then ?_
    refine c_ret ?_
    refine r_one rfl rfl ?_
    exact fun _ h => ⟨(v, e), rfl, trivial, h⟩
set_option maxRecDepth 100000 in
set_option maxHeartbeats 1000000 in
theorem leaf_one {vx : Value} (z : Int) : Con Try.prog 26 [vx] (fun w => RdV w vx (encI .i64) [z]) [] (fun r : NV => .agg r.c.toArray) (fun r => r.leaf = true ∧ ∃ e, r.l = [e]) (fun r => [nrow r]) := by
  intro w hx hH
  refine enter (n := 6) (vs := [vx]) (St w [] []) Try.func26 rfl rfl rfl (St.init hH) ?_
  refine c_seq ?_
  refine c_region _ rfl ?_
  refine l_e rfl ?_
  refine e_alloc rfl rfl rfl Try.zeroValue37 ?_
  intro bo
  refine cells_eq (show _ = nv0.c from rfl) ?_
  refine l_nil ?_
  refine k_then ?_
  refine c_seq ?_
  refine c_region _ rfl ?_
  refine l_q rfl (q_move rfl rfl) rfl rfl ?_
  refine l_e rfl ?_
  refine e_call_01 (entries_one z) rfl rfl rfl Try.call51 rfl (fun _ h => hx.keep h (by simp [dom])) ?_
  intro p _
  obtain ⟨v, e⟩ := p
  refine Pre.fact (fun _ h => rd_sv (h.rd 0 rfl)) ?_
  rintro ⟨sv, rfl⟩
  refine l_q rfl (q_build ((⟨true, sv, [e]⟩ : NV).c) rfl rfl (fun w => by kernel_rfl)) rfl rfl ?_
  refine pull1 ?_
  refine l_e rfl ?_
  refine e_storeAgg rfl rfl Try.sizeOf37 rfl rfl rfl (NV.one _) (by show 0 + 5 ≤ 5; decide) ?_
  refine cells_eq (show Sep.splice _ 0 ((⟨true, sv, [e]⟩ : NV)).c = ((⟨true, sv, [e]⟩ : NV)).c from Sep.splice_all rfl) ?_
  refine l_nil ?_
  refine k_then ?_
  refine c_ret ?_
  refine pull1 ?_
  refine pull1 ?_
  refine r_res1 rfl (res_cellA rfl Try.isAgg37 Try.sizeOf37 (fun _ h => h.at 0 rfl) (rfl)) ?_
  exact fun _ h => ⟨(⟨true, sv, [e]⟩ : NV), rfl, ⟨rfl, e, rfl⟩, h.drop⟩
end Go.Proofs.Ytpfbagkjhchojaa
