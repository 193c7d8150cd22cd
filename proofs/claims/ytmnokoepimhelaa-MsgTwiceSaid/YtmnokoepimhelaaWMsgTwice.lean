/- MsgTwice, walked -/
import Derived.Test.YtmnokoepimhelaaN
set_option linter.unusedVariables false
set_option linter.unusedSimpArgs false
namespace Go.Proofs.Ytmnokoepimhelaa
open Go.Sep Go.RowKit

set_option maxRecDepth 100000 in
set_option maxHeartbeats 1000000 in
theorem twice_spec (v th a b : Int) (ht : (Lit.int .i64 th).wf = true) : Con Try.prog 4 [.int .i64 v, .int .i64 th, .int .i64 a, .int .i64 b] (fun _ => True) [] (fun _ : Unit => .bool true) (fun _ => True) (fun _ => []) := by
  intro w hE hH
  have htb := Sep.wf_i64 ht
  refine enter (n := 71) (vs := [.int .i64 v, .int .i64 th, .int .i64 a, .int .i64 b]) (St w [] []) Try.func4 rfl rfl rfl (St.init hH) ?_
  refine c_seq ?_
  refine c_region _ rfl ?_
  refine l_q rfl (q_assign rfl rfl) rfl rfl ?_
  refine l_nil ?_
  refine k_then ?_
  refine c_seq ?_
  refine c_region _ rfl ?_
  refine l_q rfl (q_move rfl rfl) rfl rfl ?_
  refine l_e rfl ?_
  refine e_call_00 (msg_spec _ _) rfl rfl rfl Try.call19 rfl (fun _ _ => trivial) ?_
  intro x hx
  refine l_q rfl (q_move rfl rfl) rfl rfl ?_
  refine l_e rfl ?_
  refine e_call_00 (msg_spec _ _) rfl rfl rfl Try.call19 rfl (fun _ _ => trivial) ?_
  intro y hy
  refine l_e rfl ?_
  refine e_alloc rfl rfl rfl Try.zeroValue30 ?_
  intro bkx
  refine cells_eq (show _ = ms0.c from rfl) ?_
  refine l_e rfl ?_
  refine e_alloc rfl rfl rfl Try.zeroValue30 ?_
  intro bky
  refine cells_eq (show _ = ms0.c from rfl) ?_
  refine pull1 ?_
  refine l_e rfl ?_
  refine e_storeAgg rfl rfl Try.sizeOf30 rfl rfl (Ms.c_len _) (Ms.one _) (by simp only [Kv.c_len, Ms.c_len]; decide) ?_
  refine cells_eq (show _ = x.c from Sep.splice_all (by simp only [Kv.c_len, Ms.c_len])) ?_
  refine pull1 ?_
  refine l_e rfl ?_
  refine e_storeAgg rfl rfl Try.sizeOf30 rfl rfl (Ms.c_len _) (Ms.one _) (by simp only [Kv.c_len, Ms.c_len]; decide) ?_
  refine cells_eq (show _ = y.c from Sep.splice_all (by simp only [Kv.c_len, Ms.c_len])) ?_
  refine l_nil ?_
  refine k_then ?_
  refine c_seq ?_
  refine c_region _ rfl ?_
  refine l_q rfl (q_fieldAddr rfl Try.underlying30 rfl Try.sizeOf25 rfl rfl) rfl rfl ?_
  refine l_q rfl (q_loadCAgg (x.key.c) rfl Try.isAgg25 Try.sizeOf25 rfl (fun _ h => h.at 1 rfl) (Ms.key_part _) (Kv.c_len _)) rfl rfl ?_
  refine l_q rfl (q_fieldAddr rfl Try.underlying30 rfl Try.sizeOf25 rfl rfl) rfl rfl ?_
  refine l_e rfl ?_
  refine e_storeAgg rfl rfl Try.sizeOf25 rfl rfl (Kv.c_len _) (Kv.one _) (by rw [Kv.c_len, Ms.c_len]; decide) ?_
  refine cells_eq (Ms.set_key _ _) ?_
  refine l_nil ?_
  refine k_then ?_
  refine c_seq ?_
  refine c_region _ rfl ?_
  refine l_q rfl (q_move rfl rfl) rfl rfl ?_
  refine l_e rfl ?_
  refine e_call_00 (value_spec _) rfl rfl rfl Try.call20 rfl (fun _ _ => trivial) ?_
  intro vl hvl
  refine l_q rfl (q_move rfl rfl) rfl rfl ?_
  refine l_q rfl (q_rem rfl rfl rfl (by omega)) rfl rfl ?_
  refine l_q rfl (q_eql rfl rfl rfl) rfl rfl ?_
  refine l_e rfl ?_
  refine e_alloc rfl rfl rfl Try.zeroValue28 ?_
  intro bku
  refine cells_eq (show _ = (kv0 16).c from rfl) ?_
  refine l_e rfl ?_
  refine e_storeAgg rfl rfl Try.sizeOf28 rfl rfl (Kv.c_len _) (Kv.one _) (by simp only [Kv.c_len, Ms.c_len]; decide) ?_
  refine cells_eq (show _ = vl.c from Sep.splice_all (by simp only [Kv.c_len, Ms.c_len])) ?_
  refine l_q rfl (q_assign rfl rfl) rfl rfl ?_
  refine l_nil ?_
  refine k_then ?_
  refine c_seq ?_
  refine c_region _ rfl ?_
  refine l_q rfl (q_loadCAgg (vl.c) rfl Try.isAgg28 Try.sizeOf28 rfl (fun _ h => h.at 0 rfl) (kv_whole _) (Kv.c_len _)) rfl rfl ?_
  refine l_q rfl (q_move rfl rfl) rfl rfl ?_
  refine l_q rfl (q_loadCAgg (x.c) rfl Try.isAgg30 Try.sizeOf30 rfl (fun _ h => h.at 2 rfl) (ms_whole _) (Ms.c_len _)) rfl rfl ?_
  refine l_e rfl ?_
  refine e_call_00 (mapply_spec _ _ _) rfl rfl rfl Try.call15 rfl (fun _ _ => trivial) ?_
  intro _ _
  refine l_q rfl (q_move rfl rfl) rfl rfl ?_
  refine l_q rfl (q_extract rfl rfl rfl) rfl rfl ?_
  refine l_q rfl (q_extract rfl rfl rfl) rfl rfl ?_
  refine l_e rfl ?_
  refine e_alloc rfl rfl rfl Try.zeroValue28 ?_
  intro bkp
  refine cells_eq (show _ = (kv0 16).c from rfl) ?_
  refine l_e rfl ?_
  refine e_storeAgg rfl rfl Try.sizeOf28 rfl rfl (Kv.c_len _) (Kv.one _) (by simp only [Kv.c_len, Ms.c_len]; decide) ?_
  refine cells_eq (show _ = (map' vl (decide (th.tmod 2 = 0)) x).1.c from Sep.splice_all (by simp only [Kv.c_len, Ms.c_len])) ?_
  refine l_q rfl (q_assign rfl rfl) rfl rfl ?_
  refine l_nil ?_
  refine k_then ?_
  refine c_seq ?_
  refine c_region _ rfl ?_
  refine l_q rfl (q_loadCAgg ((map' vl (decide (th.tmod 2 = 0)) x).1.c) rfl Try.isAgg28 Try.sizeOf28 rfl (fun _ h => h.at 0 rfl) (kv_whole _) (Kv.c_len _)) rfl rfl ?_
  refine l_q rfl (q_move rfl rfl) rfl rfl ?_
  refine l_q rfl (q_loadCAgg ((y.setKey x.key).c) rfl Try.isAgg30 Try.sizeOf30 rfl (fun _ h => h.at 2 rfl) (ms_whole _) (Ms.c_len _)) rfl rfl ?_
  refine l_e rfl ?_
  refine e_call_00 (mapply_spec _ _ _) rfl rfl rfl Try.call15 rfl (fun _ _ => trivial) ?_
  intro _ _
  refine l_q rfl (q_move rfl rfl) rfl rfl ?_
  refine l_q rfl (q_extract rfl rfl rfl) rfl rfl ?_
  refine l_q rfl (q_extract rfl rfl rfl) rfl rfl ?_
  refine l_e rfl ?_
  refine e_alloc rfl rfl rfl Try.zeroValue28 ?_
  intro bkq
  refine cells_eq (show _ = (kv0 16).c from rfl) ?_
  refine l_e rfl ?_
  refine e_storeAgg rfl rfl Try.sizeOf28 rfl rfl (Kv.c_len _) (Kv.one _) (by simp only [Kv.c_len, Ms.c_len]; decide) ?_
  refine cells_eq (show _ = (map' (map' vl (decide (th.tmod 2 = 0)) x).1 (map' vl (decide (th.tmod 2 = 0)) x).2 (y.setKey x.key)).1.c from Sep.splice_all (by simp only [Kv.c_len, Ms.c_len])) ?_
  refine l_q rfl (q_assign rfl rfl) rfl rfl ?_
  refine l_nil ?_
  refine k_then ?_
  refine c_seq ?_
  have hY : mck (y.setKey x.key) = true := mck_setKey (mck_kck hx.1) hy.1
  refine pull1 ?_
  refine drop0 ?_
  refine pull1 ?_
  refine pull2 ?_
  refine pull3 ?_
  refine c_meet1 (fun (br : Nat) => [(9, .pointer (some ⟨bkx, 0, none⟩)), (10, .pointer (some ⟨bky, 0, none⟩)), (15, .pointer (some ⟨bkq, 0, none⟩)), (16, .bool (map' (map' vl (decide (th.tmod 2 = 0)) x).1 (map' vl (decide (th.tmod 2 = 0)) x).2 (y.setKey x.key)).2), (17, .pointer (some ⟨br, 0, none⟩)), (18, .bool (map' vl (decide (th.tmod 2 = 0)) (mco x (y.setKey x.key))).2), (8, .bool false)]) (fun (br : Nat) => St w [] [cellsE br 28 (map' vl (decide (th.tmod 2 = 0)) (mco x (y.setKey x.key))).1.c, cellsE bkx 30 x.c, cellsE bky 30 (y.setKey x.key).c, cellsE bku 28 vl.c, cellsE bkq 28 (map' (map' vl (decide (th.tmod 2 = 0)) x).1 (map' vl (decide (th.tmod 2 = 0)) x).2 (y.setKey x.key)).1.c]) (fun (br : Nat) => True) ?_ ?_
  · refine c_any (fun w2 => (cellsE bkx 30 x.c).at w2 ∧ (cellsE bky 30 (y.setKey x.key).c).at w2 ∧ (cellsE bku 28 vl.c).at w2) rfl St.drawn ?_
    refine a_q (blind_then blind_body) 0 rfl (by kernel_rfl) (by kernel_rfl) (by kernel_rfl) (fun _ h => ⟨h.at 0 rfl, h.at 1 rfl, h.at 2 rfl⟩) rfl (q_loadCAgg (vl.c) rfl Try.isAgg28 Try.sizeOf28 rfl (fun _ h => h.2.2) (kv_whole _) (Kv.c_len _)) rfl rfl ?_
    refine a_q (blind_then blind_body) 1 rfl (by kernel_rfl) (by kernel_rfl) (by kernel_rfl) (fun _ h => ⟨h.at 0 rfl, h.at 1 rfl, h.at 2 rfl⟩) rfl (q_move rfl rfl) rfl rfl ?_
    refine a_q (blind_then blind_body) 2 rfl (by kernel_rfl) (by kernel_rfl) (by kernel_rfl) (fun _ h => ⟨h.at 0 rfl, h.at 1 rfl, h.at 2 rfl⟩) rfl (q_loadCAgg (x.c) rfl Try.isAgg30 Try.sizeOf30 rfl (fun _ h => h.1) (ms_whole _) (Ms.c_len _)) rfl rfl ?_
    refine a_q (blind_then blind_body) 3 rfl (by kernel_rfl) (by kernel_rfl) (by kernel_rfl) (fun _ h => ⟨h.at 0 rfl, h.at 1 rfl, h.at 2 rfl⟩) rfl (q_loadCAgg ((y.setKey x.key).c) rfl Try.isAgg30 Try.sizeOf30 rfl (fun _ h => h.2.1) (ms_whole _) (Ms.c_len _)) rfl rfl ?_
    refine a_all2 4 9 (by kernel_rfl) rfl rfl rfl rfl ?_ ?_ 
    · refine e_call_00 (mcompose_spec _ _) rfl rfl rfl Try.call17 rfl (fun _ _ => trivial) ?_
      intro _ _
      refine d_held (fun _ h => ⟨h.at 0 rfl, h.at 1 rfl, h.at 2 rfl⟩) ?_
      refine a_all2 5 9 (by kernel_rfl) rfl rfl rfl rfl ?_ ?_ 
      · refine e_call_00 (mapply_spec _ _ _) rfl rfl rfl Try.call15 rfl (fun _ _ => trivial) ?_
        intro _ _
        refine d_held (fun _ h => ⟨h.at 0 rfl, h.at 1 rfl, h.at 2 rfl⟩) ?_
        refine a_q (blind_then blind_body) 6 rfl (by kernel_rfl) (by kernel_rfl) (by kernel_rfl) (fun _ h => ⟨h.at 0 rfl, h.at 1 rfl, h.at 2 rfl⟩) rfl (q_move rfl rfl) rfl rfl ?_
        refine a_q (blind_then blind_body) 7 rfl (by kernel_rfl) (by kernel_rfl) (by kernel_rfl) (fun _ h => ⟨h.at 0 rfl, h.at 1 rfl, h.at 2 rfl⟩) rfl (q_extract rfl rfl rfl) rfl rfl ?_
        refine a_q (blind_then blind_body) 8 rfl (by kernel_rfl) (by kernel_rfl) (by kernel_rfl) (fun _ h => ⟨h.at 0 rfl, h.at 1 rfl, h.at 2 rfl⟩) rfl (q_extract rfl rfl rfl) rfl rfl ?_
        refine a_all1 9 (by kernel_rfl) rfl rfl ?_
        refine e_alloc rfl rfl rfl Try.zeroValue28 ?_
        intro bkr
        refine cells_eq (show _ = (kv0 16).c from rfl) ?_
        refine d_held (fun _ h => ⟨h.at 1 rfl, h.at 2 rfl, h.at 3 rfl⟩) ?_
        refine a_all1 10 (by kernel_rfl) rfl rfl ?_
        refine e_storeAgg rfl rfl Try.sizeOf28 rfl rfl (Kv.c_len _) (Kv.one _) (by simp only [Kv.c_len, Ms.c_len]; decide) ?_
        refine cells_eq (show _ = (map' vl (decide (th.tmod 2 = 0)) (mco x (y.setKey x.key))).1.c from Sep.splice_all (by simp only [Kv.c_len, Ms.c_len])) ?_
        refine d_held (fun _ h => ⟨h.at 1 rfl, h.at 2 rfl, h.at 3 rfl⟩) ?_
        refine a_q (blind_then blind_body) 11 rfl (by kernel_rfl) (by kernel_rfl) (by kernel_rfl) (fun _ h => ⟨h.at 1 rfl, h.at 2 rfl, h.at 3 rfl⟩) rfl (q_assign rfl rfl) rfl rfl ?_
        refine a_nil (by kernel_rfl) ?_
        refine pull4 ?_
        refine pull4 ?_
        refine pull4 ?_
        refine pull4 ?_
        refine pull4 ?_
        exact k_meet (bkr) trivial (Sub.cons rfl (Sub.cons rfl (Sub.cons rfl (Sub.cons rfl (Sub.cons rfl (Sub.cons rfl (Sub.cons rfl (Sub.nil)))))))) (fun _ h => h)
      · refine e_alloc rfl rfl rfl Try.zeroValue28 ?_
        intro bkr
        refine cells_eq (show _ = (kv0 16).c from rfl) ?_
        refine d_held (fun _ h => ⟨h.at 1 rfl, h.at 2 rfl, h.at 3 rfl⟩) ?_
        refine a_all1 5 (by kernel_rfl) rfl rfl ?_
        refine e_call_00 (mapply_spec _ _ _) rfl rfl rfl Try.call15 rfl (fun _ _ => trivial) ?_
        intro _ _
        refine d_held (fun _ h => ⟨h.at 1 rfl, h.at 2 rfl, h.at 3 rfl⟩) ?_
        refine a_q (blind_then blind_body) 6 rfl (by kernel_rfl) (by kernel_rfl) (by kernel_rfl) (fun _ h => ⟨h.at 1 rfl, h.at 2 rfl, h.at 3 rfl⟩) rfl (q_move rfl rfl) rfl rfl ?_
        refine a_q (blind_then blind_body) 7 rfl (by kernel_rfl) (by kernel_rfl) (by kernel_rfl) (fun _ h => ⟨h.at 1 rfl, h.at 2 rfl, h.at 3 rfl⟩) rfl (q_extract rfl rfl rfl) rfl rfl ?_
        refine a_q (blind_then blind_body) 8 rfl (by kernel_rfl) (by kernel_rfl) (by kernel_rfl) (fun _ h => ⟨h.at 1 rfl, h.at 2 rfl, h.at 3 rfl⟩) rfl (q_extract rfl rfl rfl) rfl rfl ?_
        refine a_all1 10 (by kernel_rfl) rfl rfl ?_
        refine e_storeAgg rfl rfl Try.sizeOf28 rfl rfl (Kv.c_len _) (Kv.one _) (by simp only [Kv.c_len, Ms.c_len]; decide) ?_
        refine cells_eq (show _ = (map' vl (decide (th.tmod 2 = 0)) (mco x (y.setKey x.key))).1.c from Sep.splice_all (by simp only [Kv.c_len, Ms.c_len])) ?_
        refine d_held (fun _ h => ⟨h.at 1 rfl, h.at 2 rfl, h.at 3 rfl⟩) ?_
        refine a_q (blind_then blind_body) 11 rfl (by kernel_rfl) (by kernel_rfl) (by kernel_rfl) (fun _ h => ⟨h.at 1 rfl, h.at 2 rfl, h.at 3 rfl⟩) rfl (q_assign rfl rfl) rfl rfl ?_
        refine a_nil (by kernel_rfl) ?_
        refine pull4 ?_
        refine pull4 ?_
        refine pull4 ?_
        refine pull4 ?_
        refine pull4 ?_
        exact k_meet (bkr) trivial (Sub.cons rfl (Sub.cons rfl (Sub.cons rfl (Sub.cons rfl (Sub.cons rfl (Sub.cons rfl (Sub.cons rfl (Sub.nil)))))))) (fun _ h => h)
    · refine e_alloc rfl rfl rfl Try.zeroValue28 ?_
      intro bkr
      refine cells_eq (show _ = (kv0 16).c from rfl) ?_
      refine d_held (fun _ h => ⟨h.at 1 rfl, h.at 2 rfl, h.at 3 rfl⟩) ?_
      refine a_all1 4 (by kernel_rfl) rfl rfl ?_
      refine e_call_00 (mcompose_spec _ _) rfl rfl rfl Try.call17 rfl (fun _ _ => trivial) ?_
      intro _ _
      refine d_held (fun _ h => ⟨h.at 1 rfl, h.at 2 rfl, h.at 3 rfl⟩) ?_
      refine a_all1 5 (by kernel_rfl) rfl rfl ?_
      refine e_call_00 (mapply_spec _ _ _) rfl rfl rfl Try.call15 rfl (fun _ _ => trivial) ?_
      intro _ _
      refine d_held (fun _ h => ⟨h.at 1 rfl, h.at 2 rfl, h.at 3 rfl⟩) ?_
      refine a_q (blind_then blind_body) 6 rfl (by kernel_rfl) (by kernel_rfl) (by kernel_rfl) (fun _ h => ⟨h.at 1 rfl, h.at 2 rfl, h.at 3 rfl⟩) rfl (q_move rfl rfl) rfl rfl ?_
      refine a_q (blind_then blind_body) 7 rfl (by kernel_rfl) (by kernel_rfl) (by kernel_rfl) (fun _ h => ⟨h.at 1 rfl, h.at 2 rfl, h.at 3 rfl⟩) rfl (q_extract rfl rfl rfl) rfl rfl ?_
      refine a_q (blind_then blind_body) 8 rfl (by kernel_rfl) (by kernel_rfl) (by kernel_rfl) (fun _ h => ⟨h.at 1 rfl, h.at 2 rfl, h.at 3 rfl⟩) rfl (q_extract rfl rfl rfl) rfl rfl ?_
      refine a_all1 10 (by kernel_rfl) rfl rfl ?_
      refine e_storeAgg rfl rfl Try.sizeOf28 rfl rfl (Kv.c_len _) (Kv.one _) (by simp only [Kv.c_len, Ms.c_len]; decide) ?_
      refine cells_eq (show _ = (map' vl (decide (th.tmod 2 = 0)) (mco x (y.setKey x.key))).1.c from Sep.splice_all (by simp only [Kv.c_len, Ms.c_len])) ?_
      refine d_held (fun _ h => ⟨h.at 1 rfl, h.at 2 rfl, h.at 3 rfl⟩) ?_
      refine a_q (blind_then blind_body) 11 rfl (by kernel_rfl) (by kernel_rfl) (by kernel_rfl) (fun _ h => ⟨h.at 1 rfl, h.at 2 rfl, h.at 3 rfl⟩) rfl (q_assign rfl rfl) rfl rfl ?_
      refine a_nil (by kernel_rfl) ?_
      refine pull4 ?_
      refine pull4 ?_
      refine pull4 ?_
      refine pull4 ?_
      refine pull4 ?_
      exact k_meet (bkr) trivial (Sub.cons rfl (Sub.cons rfl (Sub.cons rfl (Sub.cons rfl (Sub.cons rfl (Sub.cons rfl (Sub.cons rfl (Sub.nil)))))))) (fun _ h => h)
  · intro br _
    refine c_seq ?_
    refine c_region _ rfl ?_
    refine l_q rfl (q_loadCAgg ((map' (map' vl (decide (th.tmod 2 = 0)) x).1 (map' vl (decide (th.tmod 2 = 0)) x).2 (y.setKey x.key)).1.c) rfl Try.isAgg28 Try.sizeOf28 rfl (fun _ h => h.at 4 rfl) (kv_whole _) (Kv.c_len _)) rfl rfl ?_
    refine l_q rfl (q_loadCAgg ((map' vl (decide (th.tmod 2 = 0)) (mco x (y.setKey x.key))).1.c) rfl Try.isAgg28 Try.sizeOf28 rfl (fun _ h => h.at 0 rfl) (kv_whole _) (Kv.c_len _)) rfl rfl ?_
    refine l_q rfl (q_eqVl ((map' (map' vl (decide (th.tmod 2 = 0)) x).1 (map' vl (decide (th.tmod 2 = 0)) x).2 (y.setKey x.key)).1) ((map' vl (decide (th.tmod 2 = 0)) (mco x (y.setKey x.key))).1) rfl rfl rfl) rfl rfl ?_
    refine l_q rfl (q_move rfl rfl) rfl rfl ?_
    refine Pre.setB (t := 57) (c := true) rfl (decide_eq_true (by rw [ap_co hx.1 hY rfl])) ?_
    refine l_q rfl (q_move rfl rfl) rfl rfl ?_
    refine l_q rfl (q_move rfl rfl) rfl rfl ?_
    refine l_q rfl (q_eqb rfl Try.underlying4 rfl rfl) rfl rfl ?_
    refine l_q rfl (q_pick_t rfl rfl rfl) rfl rfl ?_
    refine l_q rfl (q_move rfl rfl) rfl rfl ?_
    refine Pre.setB (t := 62) (c := true) rfl (by rw [ap_co hx.1 hY rfl]; simp) ?_
    refine l_q rfl (q_loadCAgg (x.c) rfl Try.isAgg30 Try.sizeOf30 rfl (fun _ h => h.at 1 rfl) (ms_whole _) (Ms.c_len _)) rfl rfl ?_
    refine l_q rfl (q_loadCAgg ((y.setKey x.key).c) rfl Try.isAgg30 Try.sizeOf30 rfl (fun _ h => h.at 2 rfl) (ms_whole _) (Ms.c_len _)) rfl rfl ?_
    refine l_e rfl ?_
    refine e_call_00 (mcompose_spec _ _) rfl rfl rfl Try.call17 rfl (fun _ _ => trivial) ?_
    intro _ _
    refine l_e rfl ?_
    refine e_call_00 (mcheck_spec _) rfl rfl rfl Try.call9 rfl (fun _ _ => trivial) ?_
    intro _ _
    refine l_q rfl (q_pick_t rfl rfl rfl) rfl rfl ?_
    refine l_q rfl (q_move rfl rfl) rfl rfl ?_
    refine Pre.setB (t := 68) (c := true) rfl (co_ck hx.1 hY rfl) ?_
    refine l_e rfl ?_
    refine e_call_00 (awake_spec) rfl rfl rfl Try.call14 rfl (fun _ _ => trivial) ?_
    intro _ _
    refine l_q rfl (q_pick_t rfl rfl rfl) rfl rfl ?_
    refine l_q rfl (q_assign rfl rfl) rfl rfl ?_
    refine l_nil ?_
    refine k_then ?_
    refine c_ret ?_
    refine r_one rfl rfl ?_
    exact fun _ h => ⟨(), rfl, trivial, h.nothing⟩
theorem msgTwice_walk (w : World) (a0 : Int) (w0 : (Lit.int .i64 a0).wf = true) (a1 : Int) (w1 : (Lit.int .i64 a1).wf = true) (a2 : Int) (w2 : (Lit.int .i64 a2).wf = true) (a3 : Int) (w3 : (Lit.int .i64 a3).wf = true) :
    Calls Try.prog 4 #[.int .i64 a0, .int .i64 a1, .int .i64 a2, .int .i64 a3] w fun e w' => e = .returned (.bool true) ∧ Below w.heap.size w w' := con_walk (twice_spec a0 a1 a2 a3 w1) trivial
end Go.Proofs.Ytmnokoepimhelaa
