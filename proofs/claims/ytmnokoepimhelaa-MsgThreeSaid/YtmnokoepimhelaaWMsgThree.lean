/- MsgThree, walked -/
import Derived.Test.YtmnokoepimhelaaN
set_option linter.unusedVariables false
set_option linter.unusedSimpArgs false
namespace Go.Proofs.Ytmnokoepimhelaa
open Go.Sep Go.RowKit

set_option maxRecDepth 100000 in
set_option maxHeartbeats 1000000 in
theorem three_spec (a b c : Int) : Con Try.prog 5 [.int .i64 a, .int .i64 b, .int .i64 c] (fun _ => True) [] (fun _ : Unit => .bool true) (fun _ => True) (fun _ => []) := by
  intro w hE hH
  refine enter (n := 50) (vs := [.int .i64 a, .int .i64 b, .int .i64 c]) (St w [] []) Try.func5 rfl rfl rfl (St.init hH) ?_
  refine c_seq ?_
  refine c_region _ rfl ?_
  refine l_q rfl (q_assign rfl rfl) rfl rfl ?_
  refine l_nil ?_
  refine k_then ?_
  refine c_seq ?_
  refine c_region _ rfl ?_
  refine l_q rfl (q_move rfl rfl) rfl rfl ?_
  refine l_e rfl ?_
  refine e_call_00 (msg_spec _ _) rfl rfl rfl Try.call19 rfl (fun _ _ => trivial) ?_
  intro x hx
  refine l_q rfl (q_move rfl rfl) rfl rfl ?_
  refine l_e rfl ?_
  refine e_call_00 (msg_spec _ _) rfl rfl rfl Try.call19 rfl (fun _ _ => trivial) ?_
  intro y hy
  refine l_q rfl (q_move rfl rfl) rfl rfl ?_
  refine l_e rfl ?_
  refine e_call_00 (msg_spec _ _) rfl rfl rfl Try.call19 rfl (fun _ _ => trivial) ?_
  intro z hz
  refine l_e rfl ?_
  refine e_alloc rfl rfl rfl Try.zeroValue30 ?_
  intro bkx
  refine cells_eq (show _ = ms0.c from rfl) ?_
  refine l_e rfl ?_
  refine e_alloc rfl rfl rfl Try.zeroValue30 ?_
  intro bky
  refine cells_eq (show _ = ms0.c from rfl) ?_
  refine l_e rfl ?_
  refine e_alloc rfl rfl rfl Try.zeroValue30 ?_
  intro bkz
  refine cells_eq (show _ = ms0.c from rfl) ?_
  refine pull2 ?_
  refine l_e rfl ?_
  refine e_storeAgg rfl rfl Try.sizeOf30 rfl rfl (Ms.c_len _) (Ms.one _) (by simp only [Kv.c_len, Ms.c_len]; decide) ?_
  refine cells_eq (show _ = x.c from Sep.splice_all (by simp only [Kv.c_len, Ms.c_len])) ?_
  refine pull2 ?_
  refine l_e rfl ?_
  refine e_storeAgg rfl rfl Try.sizeOf30 rfl rfl (Ms.c_len _) (Ms.one _) (by simp only [Kv.c_len, Ms.c_len]; decide) ?_
  refine cells_eq (show _ = y.c from Sep.splice_all (by simp only [Kv.c_len, Ms.c_len])) ?_
  refine pull2 ?_
  refine l_e rfl ?_
  refine e_storeAgg rfl rfl Try.sizeOf30 rfl rfl (Ms.c_len _) (Ms.one _) (by simp only [Kv.c_len, Ms.c_len]; decide) ?_
  refine cells_eq (show _ = z.c from Sep.splice_all (by simp only [Kv.c_len, Ms.c_len])) ?_
  refine l_nil ?_
  refine k_then ?_
  refine c_seq ?_
  have hY : mck (y.setKey x.key) = true := mck_setKey (mck_kck hx.1) hy.1
  have hZ : mck (z.setKey x.key) = true := mck_setKey (mck_kck hx.1) hz.1
  refine c_draw [(0, some true), (1, some true), (2, some true), (3, some true), (4, some true), (5, some false), (6, some true), (7, none)] [7] [(_, some true), (_, some true), (_, some true), (_, some true), (_, some true), (_, some false), (_, some true), (_, none)] (fun w2 => (cellsE bkx 30 x.c).at w2) (blind_then blind_body) rfl (by kernel_rfl) (by kernel_rfl) rfl rfl rfl (by kernel_rfl) St.drawn (fun _ h => h.at 2 rfl) ?_
  refine d_q rfl (q_fieldAddr rfl Try.underlying30 rfl Try.sizeOf25 rfl rfl) rfl rfl ?_
  refine d_q rfl (q_loadCAgg (x.key.c) rfl Try.isAgg25 Try.sizeOf25 rfl (fun _ h => h) (Ms.key_part _) (Kv.c_len _)) rfl rfl ?_
  refine d_q rfl (q_fieldAddr rfl Try.underlying30 rfl Try.sizeOf25 rfl rfl) rfl rfl ?_
  refine d_q rfl (q_loadCAgg (x.key.c) rfl Try.isAgg25 Try.sizeOf25 rfl (fun _ h => h) (Ms.key_part _) (Kv.c_len _)) rfl rfl ?_
  refine d_q rfl (q_fieldAddr rfl Try.underlying30 rfl Try.sizeOf25 rfl rfl) rfl rfl ?_
  refine pull1 ?_
  refine d_e rfl ?_
  refine e_storeAgg rfl rfl Try.sizeOf25 rfl rfl (Kv.c_len _) (Kv.one _) (by rw [Kv.c_len, Ms.c_len]; decide) ?_
  refine cells_eq (Ms.set_key _ _) ?_
  refine d_held (fun _ h => h.at 2 rfl) ?_
  refine d_q rfl (q_fieldAddr rfl Try.underlying30 rfl Try.sizeOf25 rfl rfl) rfl rfl ?_
  refine pull1 ?_
  refine d_t rfl ?_
  refine e_storeAgg rfl rfl Try.sizeOf25 rfl rfl (Kv.c_len _) (Kv.one _) (by rw [Kv.c_len, Ms.c_len]; decide) ?_
  refine cells_eq (Ms.set_key _ _) ?_
  refine d_nil ?_
  refine k_then ?_
  refine c_seq ?_
  refine pull1 ?_
  refine pull2 ?_
  refine c_meet1 (fun (bl : Nat) => [(7, .pointer (some ⟨bkx, 0, none⟩)), (8, .pointer (some ⟨bky, 0, none⟩)), (9, .pointer (some ⟨bkz, 0, none⟩)), (10, .pointer (some ⟨bl, 0, none⟩))]) (fun (bl : Nat) => St w [] [cellsE bl 30 (mco (mco x (y.setKey x.key)) (z.setKey x.key)).c, cellsE bkx 30 x.c, cellsE bky 30 (y.setKey x.key).c, cellsE bkz 30 (z.setKey x.key).c]) (fun (bl : Nat) => True) ?_ ?_
  · refine c_any (fun w2 => (cellsE bkx 30 x.c).at w2 ∧ (cellsE bky 30 (y.setKey x.key).c).at w2 ∧ (cellsE bkz 30 (z.setKey x.key).c).at w2) rfl St.drawn ?_
    refine a_q (blind_then blind_body) 0 rfl (by kernel_rfl) (by kernel_rfl) (by kernel_rfl) (fun _ h => ⟨h.at 0 rfl, h.at 1 rfl, h.at 2 rfl⟩) rfl (q_loadCAgg (x.c) rfl Try.isAgg30 Try.sizeOf30 rfl (fun _ h => h.1) (ms_whole _) (Ms.c_len _)) rfl rfl ?_
    refine a_q (blind_then blind_body) 1 rfl (by kernel_rfl) (by kernel_rfl) (by kernel_rfl) (fun _ h => ⟨h.at 0 rfl, h.at 1 rfl, h.at 2 rfl⟩) rfl (q_loadCAgg ((y.setKey x.key).c) rfl Try.isAgg30 Try.sizeOf30 rfl (fun _ h => h.2.1) (ms_whole _) (Ms.c_len _)) rfl rfl ?_
    refine a_q (blind_then blind_body) 3 rfl (by kernel_rfl) (by kernel_rfl) (by kernel_rfl) (fun _ h => ⟨h.at 0 rfl, h.at 1 rfl, h.at 2 rfl⟩) rfl (q_loadCAgg ((z.setKey x.key).c) rfl Try.isAgg30 Try.sizeOf30 rfl (fun _ h => h.2.2) (ms_whole _) (Ms.c_len _)) rfl rfl ?_
    refine a_all2 2 5 (by kernel_rfl) rfl rfl rfl rfl ?_ ?_ 
    · refine e_call_00 (mcompose_spec _ _) rfl rfl rfl Try.call17 rfl (fun _ _ => trivial) ?_
      intro _ _
      refine d_held (fun _ h => ⟨h.at 0 rfl, h.at 1 rfl, h.at 2 rfl⟩) ?_
      refine a_all2 4 5 (by kernel_rfl) rfl rfl rfl rfl ?_ ?_ 
      · refine e_call_00 (mcompose_spec _ _) rfl rfl rfl Try.call17 rfl (fun _ _ => trivial) ?_
        intro _ _
        refine d_held (fun _ h => ⟨h.at 0 rfl, h.at 1 rfl, h.at 2 rfl⟩) ?_
        refine a_all1 5 (by kernel_rfl) rfl rfl ?_
        refine e_alloc rfl rfl rfl Try.zeroValue30 ?_
        intro bkl
        refine cells_eq (show _ = ms0.c from rfl) ?_
        refine d_held (fun _ h => ⟨h.at 1 rfl, h.at 2 rfl, h.at 3 rfl⟩) ?_
        refine a_all1 6 (by kernel_rfl) rfl rfl ?_
        refine e_storeAgg rfl rfl Try.sizeOf30 rfl rfl (Ms.c_len _) (Ms.one _) (by simp only [Kv.c_len, Ms.c_len]; decide) ?_
        refine cells_eq (show _ = (mco (mco x (y.setKey x.key)) (z.setKey x.key)).c from Sep.splice_all (by simp only [Kv.c_len, Ms.c_len])) ?_
        refine d_held (fun _ h => ⟨h.at 1 rfl, h.at 2 rfl, h.at 3 rfl⟩) ?_
        refine a_nil (by kernel_rfl) ?_
        refine pull3 ?_
        refine pull3 ?_
        refine pull3 ?_
        refine pull3 ?_
        exact k_meet (bkl) trivial (Sub.cons rfl (Sub.cons rfl (Sub.cons rfl (Sub.cons rfl (Sub.nil))))) (fun _ h => h)
      · refine e_alloc rfl rfl rfl Try.zeroValue30 ?_
        intro bkl
        refine cells_eq (show _ = ms0.c from rfl) ?_
        refine d_held (fun _ h => ⟨h.at 1 rfl, h.at 2 rfl, h.at 3 rfl⟩) ?_
        refine a_all1 4 (by kernel_rfl) rfl rfl ?_
        refine e_call_00 (mcompose_spec _ _) rfl rfl rfl Try.call17 rfl (fun _ _ => trivial) ?_
        intro _ _
        refine d_held (fun _ h => ⟨h.at 1 rfl, h.at 2 rfl, h.at 3 rfl⟩) ?_
        refine a_all1 6 (by kernel_rfl) rfl rfl ?_
        refine e_storeAgg rfl rfl Try.sizeOf30 rfl rfl (Ms.c_len _) (Ms.one _) (by simp only [Kv.c_len, Ms.c_len]; decide) ?_
        refine cells_eq (show _ = (mco (mco x (y.setKey x.key)) (z.setKey x.key)).c from Sep.splice_all (by simp only [Kv.c_len, Ms.c_len])) ?_
        refine d_held (fun _ h => ⟨h.at 1 rfl, h.at 2 rfl, h.at 3 rfl⟩) ?_
        refine a_nil (by kernel_rfl) ?_
        refine pull3 ?_
        refine pull3 ?_
        refine pull3 ?_
        refine pull3 ?_
        exact k_meet (bkl) trivial (Sub.cons rfl (Sub.cons rfl (Sub.cons rfl (Sub.cons rfl (Sub.nil))))) (fun _ h => h)
    · refine e_alloc rfl rfl rfl Try.zeroValue30 ?_
      intro bkl
      refine cells_eq (show _ = ms0.c from rfl) ?_
      refine d_held (fun _ h => ⟨h.at 1 rfl, h.at 2 rfl, h.at 3 rfl⟩) ?_
      refine a_all1 2 (by kernel_rfl) rfl rfl ?_
      refine e_call_00 (mcompose_spec _ _) rfl rfl rfl Try.call17 rfl (fun _ _ => trivial) ?_
      intro _ _
      refine d_held (fun _ h => ⟨h.at 1 rfl, h.at 2 rfl, h.at 3 rfl⟩) ?_
      refine a_all1 4 (by kernel_rfl) rfl rfl ?_
      refine e_call_00 (mcompose_spec _ _) rfl rfl rfl Try.call17 rfl (fun _ _ => trivial) ?_
      intro _ _
      refine d_held (fun _ h => ⟨h.at 1 rfl, h.at 2 rfl, h.at 3 rfl⟩) ?_
      refine a_all1 6 (by kernel_rfl) rfl rfl ?_
      refine e_storeAgg rfl rfl Try.sizeOf30 rfl rfl (Ms.c_len _) (Ms.one _) (by simp only [Kv.c_len, Ms.c_len]; decide) ?_
      refine cells_eq (show _ = (mco (mco x (y.setKey x.key)) (z.setKey x.key)).c from Sep.splice_all (by simp only [Kv.c_len, Ms.c_len])) ?_
      refine d_held (fun _ h => ⟨h.at 1 rfl, h.at 2 rfl, h.at 3 rfl⟩) ?_
      refine a_nil (by kernel_rfl) ?_
      refine pull3 ?_
      refine pull3 ?_
      refine pull3 ?_
      refine pull3 ?_
      exact k_meet (bkl) trivial (Sub.cons rfl (Sub.cons rfl (Sub.cons rfl (Sub.cons rfl (Sub.nil))))) (fun _ h => h)
  · intro bl _
    refine c_seq ?_
    refine c_draw [(0, some true), (1, some true), (2, some true), (3, some true), (4, some false), (5, some false), (6, some true), (7, some true), (8, some true), (9, some true), (10, some true), (11, some true), (12, some true), (13, some true), (14, some true), (15, some true), (16, some true), (17, some true), (18, some true), (19, some true), (20, some false), (21, some true), (22, some true)] [] [(_, some true), (_, some true), (_, some true), (_, some true), (_, some false), (_, some false), (_, some true), (_, some true), (_, some true), (_, some true), (_, some true), (_, some true), (_, some true), (_, some true), (_, some true), (_, some true), (_, some true), (_, some true), (_, some true), (_, some true), (_, some false), (_, some true), (_, some true)] (fun w2 => (cellsE bl 30 (mco (mco x (y.setKey x.key)) (z.setKey x.key)).c).at w2 ∧ (cellsE bkx 30 x.c).at w2 ∧ (cellsE bky 30 (y.setKey x.key).c).at w2 ∧ (cellsE bkz 30 (z.setKey x.key).c).at w2) (blind_then blind_body) rfl (by kernel_rfl) (by kernel_rfl) rfl rfl rfl (by kernel_rfl) St.drawn (fun _ h => ⟨h.at 0 rfl, h.at 1 rfl, h.at 2 rfl, h.at 3 rfl⟩) ?_
    refine d_q rfl (q_loadCAgg ((mco (mco x (y.setKey x.key)) (z.setKey x.key)).c) rfl Try.isAgg30 Try.sizeOf30 rfl (fun _ h => h.1) (ms_whole _) (Ms.c_len _)) rfl rfl ?_
    refine d_q rfl (q_loadCAgg (x.c) rfl Try.isAgg30 Try.sizeOf30 rfl (fun _ h => h.2.1) (ms_whole _) (Ms.c_len _)) rfl rfl ?_
    refine d_q rfl (q_loadCAgg ((y.setKey x.key).c) rfl Try.isAgg30 Try.sizeOf30 rfl (fun _ h => h.2.2.1) (ms_whole _) (Ms.c_len _)) rfl rfl ?_
    refine d_q rfl (q_loadCAgg ((z.setKey x.key).c) rfl Try.isAgg30 Try.sizeOf30 rfl (fun _ h => h.2.2.2) (ms_whole _) (Ms.c_len _)) rfl rfl ?_
    refine d_e rfl ?_
    refine e_call_00 (mcompose_spec _ _) rfl rfl rfl Try.call17 rfl (fun _ _ => trivial) ?_
    intro _ _
    refine d_held (fun _ h => ⟨h.at 0 rfl, h.at 1 rfl, h.at 2 rfl, h.at 3 rfl⟩) ?_
    refine d_e rfl ?_
    refine e_call_00 (mcompose_spec _ _) rfl rfl rfl Try.call17 rfl (fun _ _ => trivial) ?_
    intro _ _
    refine d_held (fun _ h => ⟨h.at 0 rfl, h.at 1 rfl, h.at 2 rfl, h.at 3 rfl⟩) ?_
    refine d_q rfl (q_eqM ((mco (mco x (y.setKey x.key)) (z.setKey x.key))) ((mco x (mco (y.setKey x.key) (z.setKey x.key)))) rfl rfl rfl) rfl rfl ?_
    refine d_q rfl (q_move rfl rfl) rfl rfl ?_
    refine Pre.setB (t := 35) (c := true) rfl (decide_eq_true (co_co hx.1 hY hZ rfl rfl)) ?_
    refine d_q rfl (q_fieldAddr rfl Try.underlying30 rfl Try.sizeOf22 rfl rfl) rfl rfl ?_
    refine d_q rfl (q_loadC rfl Try.isAgg22 rfl (fun _ h => h.1) rfl) rfl rfl ?_
    refine d_q rfl (q_eql rfl rfl rfl) rfl rfl ?_
    refine d_q rfl (q_pick_t rfl rfl rfl) rfl rfl ?_
    refine d_q rfl (q_move rfl rfl) rfl rfl ?_
    refine Pre.setB (t := 40) (c := true) rfl (decide_eq_true (by rw [(co_seq _ _).1]; exact hz.2.2.trans (by decide))) ?_
    refine d_q rfl (q_fieldAddr rfl Try.underlying30 rfl Try.sizeOf25 rfl rfl) rfl rfl ?_
    refine d_q rfl (q_loadCAgg ((mco (mco x (y.setKey x.key)) (z.setKey x.key)).key.c) rfl Try.isAgg25 Try.sizeOf25 rfl (fun _ h => h.1) (Ms.key_part _) (Kv.c_len _)) rfl rfl ?_
    refine d_q rfl (q_fieldAddr rfl Try.underlying30 rfl Try.sizeOf25 rfl rfl) rfl rfl ?_
    refine d_q rfl (q_loadCAgg (x.key.c) rfl Try.isAgg25 Try.sizeOf25 rfl (fun _ h => h.2.1) (Ms.key_part _) (Kv.c_len _)) rfl rfl ?_
    refine d_q rfl (q_eqK ((mco (mco x (y.setKey x.key)) (z.setKey x.key)).key) (x.key) rfl rfl rfl) rfl rfl ?_
    refine d_q rfl (q_pick_t rfl rfl rfl) rfl rfl ?_
    refine d_q rfl (q_move rfl rfl) rfl rfl ?_
    refine Pre.setB (t := 47) (c := true) rfl (decide_eq_true (co_seq _ _).2) ?_
    refine d_e rfl ?_
    refine e_call_00 (awake_spec) rfl rfl rfl Try.call14 rfl (fun _ _ => trivial) ?_
    intro _ _
    refine d_held (fun _ h => ⟨h.at 0 rfl, h.at 1 rfl, h.at 2 rfl, h.at 3 rfl⟩) ?_
    refine d_q rfl (q_pick_t rfl rfl rfl) rfl rfl ?_
    refine d_q rfl (q_assign rfl rfl) rfl rfl ?_
    refine d_nil ?_
    refine k_then ?_
    refine c_ret ?_
    refine r_one rfl rfl ?_
    exact fun _ h => ⟨(), rfl, trivial, h.nothing⟩
theorem msgThree_walk (w : World) (a0 : Int) (w0 : (Lit.int .i64 a0).wf = true) (a1 : Int) (w1 : (Lit.int .i64 a1).wf = true) (a2 : Int) (w2 : (Lit.int .i64 a2).wf = true) :
    Calls Try.prog 5 #[.int .i64 a0, .int .i64 a1, .int .i64 a2] w fun e w' => e = .returned (.bool true) ∧ Below w.heap.size w w' := con_walk (three_spec a0 a1 a2) trivial
end Go.Proofs.Ytmnokoepimhelaa
