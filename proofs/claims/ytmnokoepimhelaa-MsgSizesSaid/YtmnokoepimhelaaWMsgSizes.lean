/- MsgSizes, walked -/
import Derived.Test.YtmnokoepimhelaaN3
set_option linter.unusedVariables false
set_option linter.unusedSimpArgs false
namespace Go.Proofs.Ytmnokoepimhelaa
open Go.Sep Go.RowKit

set_option maxRecDepth 100000 in
set_option maxHeartbeats 1000000 in
theorem sizes_spec (a b : Int) : Con Try.prog 8 [.int .i64 a, .int .i64 b] (fun _ => True) [] (fun _ : Unit => .bool true) (fun _ => True) (fun _ => []) := by
  intro w hE hH
  refine enter (n := 71) (vs := [.int .i64 a, .int .i64 b]) (St w [] []) Try.func8 rfl rfl rfl (St.init hH) ?_
  refine c_seq ?_
  refine c_region _ rfl ?_
  refine l_q rfl (q_assign rfl rfl) rfl rfl ?_
  refine l_nil ?_
  refine k_then ?_
  refine c_seq ?_
  refine c_region _ rfl ?_
  refine l_q rfl (q_move rfl rfl) rfl rfl ?_
  refine l_e rfl ?_
  refine e_call_00 (msg_spec _ _) rfl rfl rfl Try.call19 rfl (fun _ _ => trivial) ?_
  intro x hx
  refine l_q rfl (q_move rfl rfl) rfl rfl ?_
  refine l_e rfl ?_
  refine e_call_00 (msg_spec _ _) rfl rfl rfl Try.call19 rfl (fun _ _ => trivial) ?_
  intro y hy
  refine l_e rfl ?_
  refine e_alloc rfl rfl rfl Try.zeroValue30 ?_
  intro bkx
  refine cells_eq (show _ = ms0.c from rfl) ?_
  refine l_e rfl ?_
  refine e_alloc rfl rfl rfl Try.zeroValue30 ?_
  intro bky
  refine cells_eq (show _ = ms0.c from rfl) ?_
  refine pull1 ?_
  refine l_e rfl ?_
  refine e_storeAgg rfl rfl Try.sizeOf30 rfl rfl (Ms.c_len _) (Ms.one _) (by simp only [Kv.c_len, Ms.c_len]; decide) ?_
  refine cells_eq (show _ = x.c from Sep.splice_all (by simp only [Kv.c_len, Ms.c_len])) ?_
  refine pull1 ?_
  refine l_e rfl ?_
  refine e_storeAgg rfl rfl Try.sizeOf30 rfl rfl (Ms.c_len _) (Ms.one _) (by simp only [Kv.c_len, Ms.c_len]; decide) ?_
  refine cells_eq (show _ = y.c from Sep.splice_all (by simp only [Kv.c_len, Ms.c_len])) ?_
  refine l_nil ?_
  refine k_then ?_
  refine c_seq ?_
  refine c_region _ rfl ?_
  refine l_q rfl (q_fieldAddr rfl Try.underlying30 rfl Try.sizeOf25 rfl rfl) rfl rfl ?_
  refine l_q rfl (q_loadCAgg (x.key.c) rfl Try.isAgg25 Try.sizeOf25 rfl (fun _ h => h.at 1 rfl) (Ms.key_part _) (Kv.c_len _)) rfl rfl ?_
  refine l_q rfl (q_fieldAddr rfl Try.underlying30 rfl Try.sizeOf25 rfl rfl) rfl rfl ?_
  refine l_e rfl ?_
  refine e_storeAgg rfl rfl Try.sizeOf25 rfl rfl (Kv.c_len _) (Kv.one _) (by rw [Kv.c_len, Ms.c_len]; decide) ?_
  refine cells_eq (Ms.set_key _ _) ?_
  refine l_nil ?_
  refine k_then ?_
  refine c_seq ?_
  have hY : mck (y.setKey x.key) = true := mck_setKey (mck_kck hx.1) hy.1
  refine pull1 ?_
  refine c_meet1 (fun (bc : Nat) => [(5, .pointer (some ⟨bkx, 0, none⟩)), (6, .pointer (some ⟨bky, 0, none⟩)), (7, .int .i64 (mby x)), (8, .int .i64 (mby (y.setKey x.key))), (9, .pointer (some ⟨bc, 0, none⟩))]) (fun (bc : Nat) => St w [] [cellsE bc 30 (mco x (y.setKey x.key)).c, cellsE bkx 30 x.c, cellsE bky 30 (y.setKey x.key).c]) (fun (bc : Nat) => True) ?_ ?_
  · refine c_any (fun w2 => (cellsE bkx 30 x.c).at w2 ∧ (cellsE bky 30 (y.setKey x.key).c).at w2) rfl St.drawn ?_
    refine a_q (blind_then blind_body) 0 rfl (by kernel_rfl) (by kernel_rfl) (by kernel_rfl) (fun _ h => ⟨h.at 0 rfl, h.at 1 rfl⟩) rfl (q_loadCAgg (x.c) rfl Try.isAgg30 Try.sizeOf30 rfl (fun _ h => h.1) (ms_whole _) (Ms.c_len _)) rfl rfl ?_
    refine a_q (blind_then blind_body) 2 rfl (by kernel_rfl) (by kernel_rfl) (by kernel_rfl) (fun _ h => ⟨h.at 0 rfl, h.at 1 rfl⟩) rfl (q_loadCAgg ((y.setKey x.key).c) rfl Try.isAgg30 Try.sizeOf30 rfl (fun _ h => h.2) (ms_whole _) (Ms.c_len _)) rfl rfl ?_
    refine a_q (blind_then blind_body) 4 rfl (by kernel_rfl) (by kernel_rfl) (by kernel_rfl) (fun _ h => ⟨h.at 0 rfl, h.at 1 rfl⟩) rfl (q_loadCAgg (x.c) rfl Try.isAgg30 Try.sizeOf30 rfl (fun _ h => h.1) (ms_whole _) (Ms.c_len _)) rfl rfl ?_
    refine a_q (blind_then blind_body) 5 rfl (by kernel_rfl) (by kernel_rfl) (by kernel_rfl) (fun _ h => ⟨h.at 0 rfl, h.at 1 rfl⟩) rfl (q_loadCAgg ((y.setKey x.key).c) rfl Try.isAgg30 Try.sizeOf30 rfl (fun _ h => h.2) (ms_whole _) (Ms.c_len _)) rfl rfl ?_
    refine a_all2 1 7 (by kernel_rfl) rfl rfl rfl rfl ?_ ?_ 
    · refine e_call_00 (mbytes_spec _) rfl rfl rfl Try.call11 rfl (fun _ _ => trivial) ?_
      intro _ _
      refine d_held (fun _ h => ⟨h.at 0 rfl, h.at 1 rfl⟩) ?_
      refine a_all2 3 7 (by kernel_rfl) rfl rfl rfl rfl ?_ ?_ 
      · refine e_call_00 (mbytes_spec _) rfl rfl rfl Try.call11 rfl (fun _ _ => trivial) ?_
        intro _ _
        refine d_held (fun _ h => ⟨h.at 0 rfl, h.at 1 rfl⟩) ?_
        refine a_all2 6 7 (by kernel_rfl) rfl rfl rfl rfl ?_ ?_ 
        · refine e_call_00 (mcompose_spec _ _) rfl rfl rfl Try.call17 rfl (fun _ _ => trivial) ?_
          intro _ _
          refine d_held (fun _ h => ⟨h.at 0 rfl, h.at 1 rfl⟩) ?_
          refine a_all1 7 (by kernel_rfl) rfl rfl ?_
          refine e_alloc rfl rfl rfl Try.zeroValue30 ?_
          intro bkc
          refine cells_eq (show _ = ms0.c from rfl) ?_
          refine d_held (fun _ h => ⟨h.at 1 rfl, h.at 2 rfl⟩) ?_
          refine a_q (blind_then blind_body) 8 rfl (by kernel_rfl) (by kernel_rfl) (by kernel_rfl) (fun _ h => ⟨h.at 1 rfl, h.at 2 rfl⟩) rfl (q_assign rfl rfl) rfl rfl ?_
          refine a_q (blind_then blind_body) 9 rfl (by kernel_rfl) (by kernel_rfl) (by kernel_rfl) (fun _ h => ⟨h.at 1 rfl, h.at 2 rfl⟩) rfl (q_assign rfl rfl) rfl rfl ?_
          refine a_all1 10 (by kernel_rfl) rfl rfl ?_
          refine e_storeAgg rfl rfl Try.sizeOf30 rfl rfl (Ms.c_len _) (Ms.one _) (by simp only [Kv.c_len, Ms.c_len]; decide) ?_
          refine cells_eq (show _ = (mco x (y.setKey x.key)).c from Sep.splice_all (by simp only [Kv.c_len, Ms.c_len])) ?_
          refine d_held (fun _ h => ⟨h.at 1 rfl, h.at 2 rfl⟩) ?_
          refine a_nil (by kernel_rfl) ?_
          refine pull2 ?_
          refine pull2 ?_
          refine pull2 ?_
          exact k_meet (bkc) trivial (Sub.cons rfl (Sub.cons rfl (Sub.cons rfl (Sub.cons rfl (Sub.cons rfl (Sub.nil)))))) (fun _ h => h)
        · refine e_alloc rfl rfl rfl Try.zeroValue30 ?_
          intro bkc
          refine cells_eq (show _ = ms0.c from rfl) ?_
          refine d_held (fun _ h => ⟨h.at 1 rfl, h.at 2 rfl⟩) ?_
          refine a_all1 6 (by kernel_rfl) rfl rfl ?_
          refine e_call_00 (mcompose_spec _ _) rfl rfl rfl Try.call17 rfl (fun _ _ => trivial) ?_
          intro _ _
          refine d_held (fun _ h => ⟨h.at 1 rfl, h.at 2 rfl⟩) ?_
          refine a_q (blind_then blind_body) 8 rfl (by kernel_rfl) (by kernel_rfl) (by kernel_rfl) (fun _ h => ⟨h.at 1 rfl, h.at 2 rfl⟩) rfl (q_assign rfl rfl) rfl rfl ?_
          refine a_q (blind_then blind_body) 9 rfl (by kernel_rfl) (by kernel_rfl) (by kernel_rfl) (fun _ h => ⟨h.at 1 rfl, h.at 2 rfl⟩) rfl (q_assign rfl rfl) rfl rfl ?_
          refine a_all1 10 (by kernel_rfl) rfl rfl ?_
          refine e_storeAgg rfl rfl Try.sizeOf30 rfl rfl (Ms.c_len _) (Ms.one _) (by simp only [Kv.c_len, Ms.c_len]; decide) ?_
          refine cells_eq (show _ = (mco x (y.setKey x.key)).c from Sep.splice_all (by simp only [Kv.c_len, Ms.c_len])) ?_
          refine d_held (fun _ h => ⟨h.at 1 rfl, h.at 2 rfl⟩) ?_
          refine a_nil (by kernel_rfl) ?_
          refine pull2 ?_
          refine pull2 ?_
          refine pull2 ?_
          exact k_meet (bkc) trivial (Sub.cons rfl (Sub.cons rfl (Sub.cons rfl (Sub.cons rfl (Sub.cons rfl (Sub.nil)))))) (fun _ h => h)
      · refine e_alloc rfl rfl rfl Try.zeroValue30 ?_
        intro bkc
        refine cells_eq (show _ = ms0.c from rfl) ?_
        refine d_held (fun _ h => ⟨h.at 1 rfl, h.at 2 rfl⟩) ?_
        refine a_all1 3 (by kernel_rfl) rfl rfl ?_
        refine e_call_00 (mbytes_spec _) rfl rfl rfl Try.call11 rfl (fun _ _ => trivial) ?_
        intro _ _
        refine d_held (fun _ h => ⟨h.at 1 rfl, h.at 2 rfl⟩) ?_
        refine a_all1 6 (by kernel_rfl) rfl rfl ?_
        refine e_call_00 (mcompose_spec _ _) rfl rfl rfl Try.call17 rfl (fun _ _ => trivial) ?_
        intro _ _
        refine d_held (fun _ h => ⟨h.at 1 rfl, h.at 2 rfl⟩) ?_
        refine a_q (blind_then blind_body) 8 rfl (by kernel_rfl) (by kernel_rfl) (by kernel_rfl) (fun _ h => ⟨h.at 1 rfl, h.at 2 rfl⟩) rfl (q_assign rfl rfl) rfl rfl ?_
        refine a_q (blind_then blind_body) 9 rfl (by kernel_rfl) (by kernel_rfl) (by kernel_rfl) (fun _ h => ⟨h.at 1 rfl, h.at 2 rfl⟩) rfl (q_assign rfl rfl) rfl rfl ?_
        refine a_all1 10 (by kernel_rfl) rfl rfl ?_
        refine e_storeAgg rfl rfl Try.sizeOf30 rfl rfl (Ms.c_len _) (Ms.one _) (by simp only [Kv.c_len, Ms.c_len]; decide) ?_
        refine cells_eq (show _ = (mco x (y.setKey x.key)).c from Sep.splice_all (by simp only [Kv.c_len, Ms.c_len])) ?_
        refine d_held (fun _ h => ⟨h.at 1 rfl, h.at 2 rfl⟩) ?_
        refine a_nil (by kernel_rfl) ?_
        refine pull2 ?_
        refine pull2 ?_
        refine pull2 ?_
        exact k_meet (bkc) trivial (Sub.cons rfl (Sub.cons rfl (Sub.cons rfl (Sub.cons rfl (Sub.cons rfl (Sub.nil)))))) (fun _ h => h)
    · refine e_alloc rfl rfl rfl Try.zeroValue30 ?_
      intro bkc
      refine cells_eq (show _ = ms0.c from rfl) ?_
      refine d_held (fun _ h => ⟨h.at 1 rfl, h.at 2 rfl⟩) ?_
      refine a_all1 1 (by kernel_rfl) rfl rfl ?_
      refine e_call_00 (mbytes_spec _) rfl rfl rfl Try.call11 rfl (fun _ _ => trivial) ?_
      intro _ _
      refine d_held (fun _ h => ⟨h.at 1 rfl, h.at 2 rfl⟩) ?_
      refine a_all1 3 (by kernel_rfl) rfl rfl ?_
      refine e_call_00 (mbytes_spec _) rfl rfl rfl Try.call11 rfl (fun _ _ => trivial) ?_
      intro _ _
      refine d_held (fun _ h => ⟨h.at 1 rfl, h.at 2 rfl⟩) ?_
      refine a_all1 6 (by kernel_rfl) rfl rfl ?_
      refine e_call_00 (mcompose_spec _ _) rfl rfl rfl Try.call17 rfl (fun _ _ => trivial) ?_
      intro _ _
      refine d_held (fun _ h => ⟨h.at 1 rfl, h.at 2 rfl⟩) ?_
      refine a_q (blind_then blind_body) 8 rfl (by kernel_rfl) (by kernel_rfl) (by kernel_rfl) (fun _ h => ⟨h.at 1 rfl, h.at 2 rfl⟩) rfl (q_assign rfl rfl) rfl rfl ?_
      refine a_q (blind_then blind_body) 9 rfl (by kernel_rfl) (by kernel_rfl) (by kernel_rfl) (fun _ h => ⟨h.at 1 rfl, h.at 2 rfl⟩) rfl (q_assign rfl rfl) rfl rfl ?_
      refine a_all1 10 (by kernel_rfl) rfl rfl ?_
      refine e_storeAgg rfl rfl Try.sizeOf30 rfl rfl (Ms.c_len _) (Ms.one _) (by simp only [Kv.c_len, Ms.c_len]; decide) ?_
      refine cells_eq (show _ = (mco x (y.setKey x.key)).c from Sep.splice_all (by simp only [Kv.c_len, Ms.c_len])) ?_
      refine d_held (fun _ h => ⟨h.at 1 rfl, h.at 2 rfl⟩) ?_
      refine a_nil (by kernel_rfl) ?_
      refine pull2 ?_
      refine pull2 ?_
      refine pull2 ?_
      exact k_meet (bkc) trivial (Sub.cons rfl (Sub.cons rfl (Sub.cons rfl (Sub.cons rfl (Sub.cons rfl (Sub.nil)))))) (fun _ h => h)
  · intro bc _
    refine c_seq ?_
    refine c_seq ?_
    have bx := by_bd hx.1
    have bY := by_bd hY
    have bC := by_co hx.1 hY rfl
    have hkk := mck_key hx.1
    have wz0 : x.key.n < 8 → (Lit.int .i64 (x.key.n + 1)).wf = true := fun h => by
      simp only [Lit.wf, Bool.and_eq_true, decide_eq_true_eq]
      exact ⟨by show (-2 ^ 63 : Int) ≤ _; omega, by show _ ≤ (2 ^ 63 - 1 : Int); omega⟩
    refine c_draw [(0, some true), (1, some true), (2, some true), (3, some true), (4, some true), (5, some true), (6, some true), (7, some true), (8, some true), (9, some true), (10, some true), (11, some true), (12, some true), (13, some true), (14, some true), (15, some true), (17, some true), (18, some true), (19, some true), (20, some true), (21, some true), (22, some true), (23, some true), (16, some false), (24, some true), (25, some true)] [] [(_, some true), (_, some true), (_, some true), (_, some true), (_, some true), (_, some true), (_, some true), (_, some true), (_, some true), (_, some true), (_, some true), (_, some true), (_, some true), (_, some true), (_, some true), (_, some true), (_, some true), (_, some true), (_, some true), (_, some true), (_, some true), (_, some true), (_, some true), (_, some false), (_, some true), (_, some true)] (fun w2 => (cellsE bc 30 (mco x (y.setKey x.key)).c).at w2 ∧ (cellsE bkx 30 x.c).at w2) (blind_then (blind_then blind_body)) rfl (by kernel_rfl) (by kernel_rfl) rfl rfl rfl (by kernel_rfl) St.drawn (fun _ h => ⟨h.at 0 rfl, h.at 1 rfl⟩) ?_
    refine d_q rfl (q_move rfl rfl) rfl rfl ?_
    refine d_q rfl (q_lss rfl rfl rfl) rfl rfl ?_
    refine d_q rfl (q_move rfl rfl) rfl rfl ?_
    refine Pre.setB (t := 27) (c := false) rfl (decide_eq_false (by omega)) ?_
    refine d_q rfl (q_move rfl rfl) rfl rfl ?_
    refine d_q rfl (q_gtr rfl rfl rfl) rfl rfl ?_
    refine d_q rfl (q_pick_f rfl rfl rfl) rfl rfl ?_
    refine d_q rfl (q_move rfl rfl) rfl rfl ?_
    refine Pre.setB (t := 31) (c := false) rfl (decide_eq_false (by omega)) ?_
    refine d_q rfl (q_move rfl rfl) rfl rfl ?_
    refine d_q rfl (q_lss rfl rfl rfl) rfl rfl ?_
    refine d_q rfl (q_pick_f rfl rfl rfl) rfl rfl ?_
    refine d_q rfl (q_move rfl rfl) rfl rfl ?_
    refine Pre.setB (t := 35) (c := false) rfl (decide_eq_false (by omega)) ?_
    refine d_q rfl (q_move rfl rfl) rfl rfl ?_
    refine d_q rfl (q_gtr rfl rfl rfl) rfl rfl ?_
    refine d_q rfl (q_pick_f rfl rfl rfl) rfl rfl ?_
    refine d_q rfl (q_move rfl rfl) rfl rfl ?_
    refine Pre.setB (t := 39) (c := false) rfl (decide_eq_false (by omega)) ?_
    refine d_q rfl (q_loadCAgg ((mco x (y.setKey x.key)).c) rfl Try.isAgg30 Try.sizeOf30 rfl (fun _ h => h.1) (ms_whole _) (Ms.c_len _)) rfl rfl ?_
    refine d_q rfl (q_move rfl rfl) rfl rfl ?_
    refine d_q rfl (q_move rfl rfl) rfl rfl ?_
    refine d_q rfl (q_fieldAddr rfl Try.underlying30 rfl Try.sizeOf25 rfl rfl) rfl rfl ?_
    refine d_q rfl (q_fieldAddr rfl Try.underlying25 rfl Try.sizeOf3 rfl rfl) rfl rfl ?_
    refine d_q rfl (q_loadC rfl Try.isAgg3 rfl (fun _ h => h.2) rfl) rfl rfl ?_
    refine d_q rfl (q_add64 rfl rfl rfl (by omega)) rfl rfl ?_
    refine d_q rfl (q_max3 rfl rfl rfl rfl) rfl rfl ?_
    refine d_e rfl ?_
    refine e_call_00 (mbytes_spec _) rfl rfl rfl Try.call11 rfl (fun _ _ => trivial) ?_
    intro _ _
    refine d_held (fun _ h => ⟨h.at 0 rfl, h.at 1 rfl⟩) ?_
    refine d_q rfl (q_gtr rfl rfl rfl) rfl rfl ?_
    refine d_q rfl (q_pick_f rfl rfl rfl) rfl rfl ?_
    refine d_nil ?_
    refine k_then ?_
    refine Pre.setB (t := 50) (c := false) rfl (decide_eq_false (by (repeat' split) <;> omega)) ?_
    refine c_false rfl ?_
    refine c_skip ?_
    refine k_then ?_
    refine c_seq ?_
    refine c_region _ rfl ?_
    refine l_q rfl (q_loadCAgg (x.c) rfl Try.isAgg30 Try.sizeOf30 rfl (fun _ h => h.at 1 rfl) (ms_whole _) (Ms.c_len _)) rfl rfl ?_
    refine l_e rfl ?_
    refine e_alloc rfl rfl rfl Try.zeroValue30 ?_
    intro bkz
    refine cells_eq (show _ = ms0.c from rfl) ?_
    refine l_e rfl ?_
    refine e_storeAgg rfl rfl Try.sizeOf30 rfl rfl (Ms.c_len _) (Ms.one _) (by simp only [Kv.c_len, Ms.c_len]; decide) ?_
    refine cells_eq (show _ = x.c from Sep.splice_all (by simp only [Kv.c_len, Ms.c_len])) ?_
    refine l_nil ?_
    refine k_then ?_
    refine c_seq ?_
    refine c_seq ?_
    refine c_region _ rfl ?_
    refine l_q rfl (q_fieldAddr rfl Try.underlying30 rfl Try.sizeOf25 rfl rfl) rfl rfl ?_
    refine l_q rfl (q_fieldAddr rfl Try.underlying25 rfl Try.sizeOf3 rfl rfl) rfl rfl ?_
    refine l_q rfl (q_loadC rfl Try.isAgg3 rfl (fun _ h => h.at 0 rfl) rfl) rfl rfl ?_
    refine l_q rfl (q_lss rfl rfl rfl) rfl rfl ?_
    refine l_nil ?_
    refine k_then ?_
    refine Pre.caseB 55 rfl (fun h8 => ?_) (fun h8 => ?_)
    · try simp only [decide_eq_true_eq, decide_eq_false_iff_not, Bool.not_eq_true', Bool.not_eq_false'] at h8
      have wz := wz0 h8
      refine c_true rfl ?_
      refine c_seq ?_
      refine c_region _ rfl ?_
      refine l_q rfl (q_fieldAddr rfl Try.underlying30 rfl Try.sizeOf25 rfl rfl) rfl rfl ?_
      refine l_q rfl (q_fieldAddr rfl Try.underlying25 rfl Try.sizeOf3 rfl rfl) rfl rfl ?_
      refine l_q rfl (q_loadC rfl Try.isAgg3 rfl (fun _ h => h.at 0 rfl) rfl) rfl rfl ?_
      refine l_q rfl (q_add64 rfl rfl rfl (by omega)) rfl rfl ?_
      refine l_q rfl (q_fieldAddr rfl Try.underlying30 rfl Try.sizeOf25 rfl rfl) rfl rfl ?_
      refine l_q rfl (q_fieldAddr rfl Try.underlying25 rfl Try.sizeOf3 rfl rfl) rfl rfl ?_
      refine l_e rfl ?_
      refine e_store rfl rfl Try.sizeOf3 rfl rfl rfl (by rw [Ms.c_len]; decide) ?_
      refine cells_eq (set_kn x _ wz) ?_
      refine l_nil ?_
      refine k_then ?_
      refine c_seq ?_
      refine c_region _ rfl ?_
      refine l_q rfl (q_loadCAgg ((x.setKey (kmore x.key (x.key.n + 1) wz)).c) rfl Try.isAgg30 Try.sizeOf30 rfl (fun _ h => h.at 0 rfl) (ms_whole _) (Ms.c_len _)) rfl rfl ?_
      refine l_e rfl ?_
      refine e_call_00 (mbytes_spec _) rfl rfl rfl Try.call11 rfl (fun _ _ => trivial) ?_
      intro _ _
      refine l_q rfl (q_move rfl rfl) rfl rfl ?_
      refine l_q rfl (q_add64 rfl rfl rfl (by omega)) rfl rfl ?_
      refine l_q rfl (q_eql rfl rfl rfl) rfl rfl ?_
      refine l_q rfl (q_move rfl rfl) rfl rfl ?_
      refine Pre.setB (t := 67) (c := true) rfl (decide_eq_true (more_by hx.1 h8 wz)) ?_
      refine l_e rfl ?_
      refine e_call_00 (awake_spec) rfl rfl rfl Try.call14 rfl (fun _ _ => trivial) ?_
      intro _ _
      refine l_q rfl (q_pick_t rfl rfl rfl) rfl rfl ?_
      refine l_q rfl (q_assign rfl rfl) rfl rfl ?_
      refine l_nil ?_
      refine k_then ?_
      refine c_ret ?_
      refine k_then_ret ?_
      refine r_one rfl rfl ?_
      exact fun _ h => ⟨(), rfl, trivial, h.nothing⟩
    · try simp only [decide_eq_true_eq, decide_eq_false_iff_not, Bool.not_eq_true', Bool.not_eq_false'] at h8
      refine c_false rfl ?_
      refine c_skip ?_
      refine k_then ?_
      refine c_seq ?_
      refine c_region _ rfl ?_
      refine l_e rfl ?_
      refine e_call_00 (awake_spec) rfl rfl rfl Try.call14 rfl (fun _ _ => trivial) ?_
      intro _ _
      refine l_q rfl (q_assign rfl rfl) rfl rfl ?_
      refine l_nil ?_
      refine k_then ?_
      refine c_ret ?_
      refine r_one rfl rfl ?_
      exact fun _ h => ⟨(), rfl, trivial, h.nothing⟩
theorem msgSizes_walk (w : World) (a0 : Int) (w0 : (Lit.int .i64 a0).wf = true) (a1 : Int) (w1 : (Lit.int .i64 a1).wf = true) :
    Calls Try.prog 8 #[.int .i64 a0, .int .i64 a1] w fun e w' => e = .returned (.bool true) ∧ Below w.heap.size w w' := con_walk (sizes_spec a0 a1) trivial
end Go.Proofs.Ytmnokoepimhelaa
