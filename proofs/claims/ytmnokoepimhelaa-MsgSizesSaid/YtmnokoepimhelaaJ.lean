/- awake -/
import Derived.Test.YtmnokoepimhelaaH
set_option linter.unusedVariables false
set_option linter.unusedSimpArgs false
namespace Go.Proofs.Ytmnokoepimhelaa
open Go.Sep Go.RowKit

def mk4 (k q : Int) (key : Kv 8) (y : Int) (wk : (Lit.int .i64 k).wf = true) (wq : (Lit.int .u64 q).wf = true) (wy : (Lit.int .u64 y).wf = true) : Ms := ⟨k, q, key, kv0 16, y, wk, wq, wy⟩
theorem build4 (k q : Int) (key : Kv 8) (y : Int) (wk : (Lit.int .i64 k).wf = true) (wq : (Lit.int .u64 q).wf = true) (wy : (Lit.int .u64 y).wf = true) (w : World) : (Instr.build 30 #[(0, .int .i64 k), (1, .int .u64 q), (2, .agg key.c.toArray), (4, .int .u64 y)]).run Try.prog w = .ok (.agg (mk4 k q key y wk wq wy).c.toArray) w := by
  obtain ⟨a, b, c, d, e, f, g, h, hb⟩ := kv8_list key
  unfold Ms.c mk4 Kv.c
  rw [hb]
  kernel_rfl
theorem two_ck {k : Kv 8} (h : kck k = true) {q y : Int} {wk : (Lit.int .i64 3).wf = true} {wq : (Lit.int .u64 q).wf = true} {wy : (Lit.int .u64 y).wf = true} : mck (mk4 3 q k y wk wq wy) = true := by simp [mck, mk4, h]
theorem ms0_ck : mck ms0 = false := by decide +kernel
def two (k : Kv 8) : Ms := mk4 3 5 k 2 (by decide) (by decide) (by decide)
def three (k : Kv 8) : Ms := mk4 3 4 k 3 (by decide) (by decide) (by decide)
def five (k : Kv 8) : Ms := mk4 3 5 k 5 (by decide) (by decide) (by decide)
def late (k : Kv 8) : Ms := ⟨1, 5, k, vfrom 2, 0, by decide, by decide, by decide⟩
theorem co5 (k : Kv 8) : mco (three k) (two k) = five k := by
  unfold mco; simp [three, two, mk4, five]; decide
theorem co2 (k : Kv 8) : mco (mk3 2 1 k (by decide) (by decide)) (two k) = late k := by
  unfold mco; simp [mk3, two, mk4, late]; exact plus0 (by decide)
theorem ap2 (k : Kv 8) : map' (kv0 16) false (two k) = (vfrom 2, true) := by
  unfold map'; simp [two, mk4]; exact plus0 (by decide)
theorem by2 {k : Kv 8} (h : kck k = true) (hn : k.n = 1) : mby (two k) = 19 := by
  have h2 : mck (two k) = true := two_ck h
  unfold mby; rw [if_pos h2]; simp [two, mk4, hn]
set_option maxRecDepth 100000 in
set_option maxHeartbeats 1000000 in
theorem awake_spec : Con Try.prog 14 [] (fun _ => True) [] (fun _ : Unit => .bool true) (fun _ => True) (fun _ => []) := by
  intro w hE hH
  refine enter (n := 72) (vs := []) (St w [] []) Try.func14 rfl rfl rfl (St.init hH) ?_
  refine c_seq ?_
  refine c_region _ rfl ?_
  refine l_q rfl (q_assign rfl rfl) rfl rfl ?_
  refine l_nil ?_
  refine k_then ?_
  refine c_seq ?_
  refine c_region _ rfl ?_
  refine l_e rfl ?_
  refine e_call_00 (key_spec 0) rfl rfl rfl Try.call21 rfl (fun _ _ => trivial) ?_
  intro ky hky
  have hk1 := hky.1
  have hk2 := hky.2 rfl
  refine l_e rfl ?_
  refine e_alloc rfl rfl rfl Try.zeroValue25 ?_
  intro bk
  refine cells_eq (show _ = (kv0 8).c from rfl) ?_
  refine l_e rfl ?_
  refine e_storeAgg rfl rfl Try.sizeOf25 rfl rfl (Kv.c_len _) (Kv.one _) (by simp only [Kv.c_len, Ms.c_len]; decide) ?_
  refine cells_eq (show _ = ky.c from Sep.splice_all (by simp only [Kv.c_len, Ms.c_len])) ?_
  refine l_nil ?_
  refine k_then ?_
  refine c_seq ?_
  refine c_meet2 (fun (b2 : Nat) (b3 : Nat) => [(1, .pointer (some ⟨bk, 0, none⟩)), (2, .pointer (some ⟨b2, 0, none⟩)), (3, .pointer (some ⟨b3, 0, none⟩))]) (fun (b2 : Nat) (b3 : Nat) => St w [] [cellsE b2 30 (two ky).c, cellsE b3 30 (three ky).c, cellsE bk 25 ky.c]) (fun (b2 : Nat) (b3 : Nat) => True) ?_ ?_
  · refine c_any (fun w2 => (cellsE bk 25 ky.c).at w2) rfl St.drawn ?_
    refine a_q (blind_then blind_body) 0 rfl (by kernel_rfl) (by kernel_rfl) (by kernel_rfl) (fun _ h => h.at 0 rfl) rfl (q_loadCAgg (ky.c) rfl Try.isAgg25 Try.sizeOf25 rfl (fun _ h => h) (kv_whole _) (Kv.c_len _)) rfl rfl ?_
    refine a_q (blind_then blind_body) 1 rfl (by kernel_rfl) (by kernel_rfl) (by kernel_rfl) (fun _ h => h.at 0 rfl) rfl (q_build ((two ky).c) rfl rfl (fun w => build4 _ _ ky _ (by decide) (by decide) (by decide) w)) rfl rfl ?_
    refine a_q (blind_then blind_body) 2 rfl (by kernel_rfl) (by kernel_rfl) (by kernel_rfl) (fun _ h => h.at 0 rfl) rfl (q_loadCAgg (ky.c) rfl Try.isAgg25 Try.sizeOf25 rfl (fun _ h => h) (kv_whole _) (Kv.c_len _)) rfl rfl ?_
    refine a_q (blind_then blind_body) 3 rfl (by kernel_rfl) (by kernel_rfl) (by kernel_rfl) (fun _ h => h.at 0 rfl) rfl (q_build ((three ky).c) rfl rfl (fun w => build4 _ _ ky _ (by decide) (by decide) (by decide) w)) rfl rfl ?_
    refine a_all2 4 5 (by kernel_rfl) rfl rfl rfl rfl ?_ ?_ 
    · refine e_alloc rfl rfl rfl Try.zeroValue30 ?_
      intro y2
      refine cells_eq (show _ = ms0.c from rfl) ?_
      refine d_held (fun _ h => h.at 1 rfl) ?_
      refine a_all1 5 (by kernel_rfl) rfl rfl ?_
      refine e_alloc rfl rfl rfl Try.zeroValue30 ?_
      intro y3
      refine cells_eq (show _ = ms0.c from rfl) ?_
      refine d_held (fun _ h => h.at 2 rfl) ?_
      refine pull1 ?_
      refine a_all1 6 (by kernel_rfl) rfl rfl ?_
      refine e_storeAgg rfl rfl Try.sizeOf30 rfl rfl (Ms.c_len _) (Ms.one _) (by simp only [Kv.c_len, Ms.c_len]; decide) ?_
      refine cells_eq (show _ = (two ky).c from Sep.splice_all (by simp only [Kv.c_len, Ms.c_len])) ?_
      refine d_held (fun _ h => h.at 2 rfl) ?_
      refine pull1 ?_
      refine a_all1 7 (by kernel_rfl) rfl rfl ?_
      refine e_storeAgg rfl rfl Try.sizeOf30 rfl rfl (Ms.c_len _) (Ms.one _) (by simp only [Kv.c_len, Ms.c_len]; decide) ?_
      refine cells_eq (show _ = (three ky).c from Sep.splice_all (by simp only [Kv.c_len, Ms.c_len])) ?_
      refine d_held (fun _ h => h.at 2 rfl) ?_
      refine a_nil (by kernel_rfl) ?_
      refine pull2 ?_
      refine pull1 ?_
      refine pull2 ?_
      exact k_meet ((y2, y3)) trivial (Sub.cons rfl (Sub.cons rfl (Sub.cons rfl (Sub.nil)))) (fun _ h => h)
    · refine e_alloc rfl rfl rfl Try.zeroValue30 ?_
      intro y3
      refine cells_eq (show _ = ms0.c from rfl) ?_
      refine d_held (fun _ h => h.at 1 rfl) ?_
      refine a_all1 4 (by kernel_rfl) rfl rfl ?_
      refine e_alloc rfl rfl rfl Try.zeroValue30 ?_
      intro y2
      refine cells_eq (show _ = ms0.c from rfl) ?_
      refine d_held (fun _ h => h.at 2 rfl) ?_
      refine a_all1 6 (by kernel_rfl) rfl rfl ?_
      refine e_storeAgg rfl rfl Try.sizeOf30 rfl rfl (Ms.c_len _) (Ms.one _) (by simp only [Kv.c_len, Ms.c_len]; decide) ?_
      refine cells_eq (show _ = (two ky).c from Sep.splice_all (by simp only [Kv.c_len, Ms.c_len])) ?_
      refine d_held (fun _ h => h.at 2 rfl) ?_
      refine pull1 ?_
      refine a_all1 7 (by kernel_rfl) rfl rfl ?_
      refine e_storeAgg rfl rfl Try.sizeOf30 rfl rfl (Ms.c_len _) (Ms.one _) (by simp only [Kv.c_len, Ms.c_len]; decide) ?_
      refine cells_eq (show _ = (three ky).c from Sep.splice_all (by simp only [Kv.c_len, Ms.c_len])) ?_
      refine d_held (fun _ h => h.at 2 rfl) ?_
      refine a_nil (by kernel_rfl) ?_
      refine pull2 ?_
      refine pull1 ?_
      refine pull2 ?_
      exact k_meet ((y2, y3)) trivial (Sub.cons rfl (Sub.cons rfl (Sub.cons rfl (Sub.nil)))) (fun _ h => h)
  · intro b2 b3 _
    refine c_seq ?_
    refine c_region _ rfl ?_
    refine l_q rfl (q_loadCAgg ((three ky).c) rfl Try.isAgg30 Try.sizeOf30 rfl (fun _ h => h.at 1 rfl) (ms_whole _) (Ms.c_len _)) rfl rfl ?_
    refine l_q rfl (q_loadCAgg ((two ky).c) rfl Try.isAgg30 Try.sizeOf30 rfl (fun _ h => h.at 0 rfl) (ms_whole _) (Ms.c_len _)) rfl rfl ?_
    refine l_e rfl ?_
    refine e_call_00 (mcompose_spec _ _) rfl rfl rfl Try.call17 rfl (fun _ _ => trivial) ?_
    intro _ _
    rw [co5 ky]
    refine l_e rfl ?_
    refine e_alloc rfl rfl rfl Try.zeroValue30 ?_
    intro bc
    refine cells_eq (show _ = ms0.c from rfl) ?_
    refine l_e rfl ?_
    refine e_storeAgg rfl rfl Try.sizeOf30 rfl rfl (Ms.c_len _) (Ms.one _) (by simp only [Kv.c_len, Ms.c_len]; decide) ?_
    refine cells_eq (show _ = (five ky).c from Sep.splice_all (by simp only [Kv.c_len, Ms.c_len])) ?_
    refine l_nil ?_
    refine k_then ?_
    refine c_seq ?_
    refine c_region _ rfl ?_
    refine l_q rfl (q_loadCAgg (ky.c) rfl Try.isAgg25 Try.sizeOf25 rfl (fun _ h => h.at 3 rfl) (kv_whole _) (Kv.c_len _)) rfl rfl ?_
    refine l_q rfl (q_build ((mk3 2 1 ky (by decide) (by decide)).c) rfl rfl (fun w => build3 _ _ _ (by decide) (by decide) w)) rfl rfl ?_
    refine l_q rfl (q_loadCAgg ((two ky).c) rfl Try.isAgg30 Try.sizeOf30 rfl (fun _ h => h.at 1 rfl) (ms_whole _) (Ms.c_len _)) rfl rfl ?_
    refine l_e rfl ?_
    refine e_call_00 (mcompose_spec _ _) rfl rfl rfl Try.call17 rfl (fun _ _ => trivial) ?_
    intro _ _
    rw [co2 ky]
    refine l_e rfl ?_
    refine e_alloc rfl rfl rfl Try.zeroValue30 ?_
    intro bd
    refine cells_eq (show _ = ms0.c from rfl) ?_
    refine l_e rfl ?_
    refine e_storeAgg rfl rfl Try.sizeOf30 rfl rfl (Ms.c_len _) (Ms.one _) (by simp only [Kv.c_len, Ms.c_len]; decide) ?_
    refine cells_eq (show _ = (late ky).c from Sep.splice_all (by simp only [Kv.c_len, Ms.c_len])) ?_
    refine l_nil ?_
    refine k_then ?_
    refine c_seq ?_
    refine c_region _ rfl ?_
    refine l_q rfl (q_build ((kv0 16).c) rfl rfl (fun w => by kernel_rfl)) rfl rfl ?_
    refine l_q rfl (q_loadCAgg ((two ky).c) rfl Try.isAgg30 Try.sizeOf30 rfl (fun _ h => h.at 2 rfl) (ms_whole _) (Ms.c_len _)) rfl rfl ?_
    refine l_e rfl ?_
    refine e_call_00 (mapply_spec _ _ _) rfl rfl rfl Try.call15 rfl (fun _ _ => trivial) ?_
    intro _ _
    rw [ap2 ky]
    refine l_q rfl (q_move rfl rfl) rfl rfl ?_
    refine l_q rfl (q_extract rfl rfl rfl) rfl rfl ?_
    refine l_q rfl (q_extract rfl rfl rfl) rfl rfl ?_
    refine l_e rfl ?_
    refine e_alloc rfl rfl rfl Try.zeroValue28 ?_
    intro bx
    refine cells_eq (show _ = (kv0 16).c from rfl) ?_
    refine l_e rfl ?_
    refine e_storeAgg rfl rfl Try.sizeOf28 rfl rfl (Kv.c_len _) (Kv.one _) (by simp only [Kv.c_len, Ms.c_len]; decide) ?_
    refine cells_eq (show _ = (vfrom 2).c from Sep.splice_all (by simp only [Kv.c_len, Ms.c_len])) ?_
    refine l_q rfl (q_assign rfl rfl) rfl rfl ?_
    refine l_nil ?_
    refine k_then ?_
    refine c_seq ?_
    refine c_draw [(0, some true), (1, some false), (2, some true), (3, some true), (4, some false), (5, some true), (6, some true), (7, some true), (8, some true), (9, some true), (10, some true), (11, some true), (12, some true), (13, some true), (14, some true), (15, some true), (16, some true), (17, some true), (18, some true), (19, some true), (20, some true), (21, some true), (22, some true), (23, some true), (24, some true), (25, some true), (26, some true), (27, some true), (28, some true), (29, some true), (30, some false), (31, some true), (32, some true), (33, some true), (34, some true), (35, some true), (36, some true), (37, some true), (38, some false), (39, some true), (40, some true), (41, some true), (42, some true), (43, some false), (44, some true), (45, some true), (46, some true)] [] [(_, some true), (_, some false), (_, some true), (_, some true), (_, some false), (_, some true), (_, some true), (_, some true), (_, some true), (_, some true), (_, some true), (_, some true), (_, some true), (_, some true), (_, some true), (_, some true), (_, some true), (_, some true), (_, some true), (_, some true), (_, some true), (_, some true), (_, some true), (_, some true), (_, some true), (_, some true), (_, some true), (_, some true), (_, some true), (_, some true), (_, some false), (_, some true), (_, some true), (_, some true), (_, some true), (_, some true), (_, some true), (_, some true), (_, some false), (_, some true), (_, some true), (_, some true), (_, some true), (_, some false), (_, some true), (_, some true), (_, some true)] _ (blind_then blind_body) rfl (by kernel_rfl) (by kernel_rfl) rfl rfl rfl (by kernel_rfl) St.drawn (fun _ h => h) ?_
    refine d_q rfl (q_loadCAgg ((two ky).c) rfl Try.isAgg30 Try.sizeOf30 rfl (fun _ h => h.at 3 rfl) (ms_whole _) (Ms.c_len _)) rfl rfl ?_
    refine d_e rfl ?_
    refine e_call_00 (mcheck_spec _) rfl rfl rfl Try.call9 rfl (fun _ _ => trivial) ?_
    intro _ _
    refine d_held (fun _ h => h) ?_
    refine d_q rfl (q_move rfl rfl) rfl rfl ?_
    refine Pre.setB (t := 28) (c := true) rfl (two_ck hk1) ?_
    refine d_q rfl (q_build (ms0.c) rfl rfl (fun w => by kernel_rfl)) rfl rfl ?_
    refine d_e rfl ?_
    refine e_call_00 (mcheck_spec _) rfl rfl rfl Try.call9 rfl (fun _ _ => trivial) ?_
    intro _ _
    refine d_held (fun _ h => h) ?_
    refine d_q rfl (q_not rfl rfl) rfl rfl ?_
    refine d_q rfl (q_pick_t rfl rfl rfl) rfl rfl ?_
    refine d_q rfl (q_move rfl rfl) rfl rfl ?_
    refine Pre.setB (t := 33) (c := true) rfl (by rw [ms0_ck]; rfl) ?_
    refine d_q rfl (q_fieldAddr rfl Try.underlying30 rfl Try.sizeOf3 rfl rfl) rfl rfl ?_
    refine d_q rfl (q_loadC rfl Try.isAgg3 rfl (fun _ h => h.at 2 rfl) rfl) rfl rfl ?_
    refine d_q rfl (q_eql rfl rfl rfl) rfl rfl ?_
    refine d_q rfl (q_pick_t rfl rfl rfl) rfl rfl ?_
    refine d_q rfl (q_move rfl rfl) rfl rfl ?_
    refine Pre.setB (t := 38) (c := true) rfl (by rfl) ?_
    refine d_q rfl (q_fieldAddr rfl Try.underlying30 rfl Try.sizeOf22 rfl rfl) rfl rfl ?_
    refine d_q rfl (q_loadC rfl Try.isAgg22 rfl (fun _ h => h.at 2 rfl) (Ms.by_part _)) rfl rfl ?_
    refine d_q rfl (q_eql rfl rfl rfl) rfl rfl ?_
    refine d_q rfl (q_pick_t rfl rfl rfl) rfl rfl ?_
    refine d_q rfl (q_move rfl rfl) rfl rfl ?_
    refine Pre.setB (t := 43) (c := true) rfl (by rfl) ?_
    refine d_q rfl (q_fieldAddr rfl Try.underlying30 rfl Try.sizeOf22 rfl rfl) rfl rfl ?_
    refine d_q rfl (q_loadC rfl Try.isAgg22 rfl (fun _ h => h.at 2 rfl) rfl) rfl rfl ?_
    refine d_q rfl (q_eql rfl rfl rfl) rfl rfl ?_
    refine d_q rfl (q_pick_t rfl rfl rfl) rfl rfl ?_
    refine d_q rfl (q_move rfl rfl) rfl rfl ?_
    refine Pre.setB (t := 48) (c := true) rfl (by rfl) ?_
    refine d_q rfl (q_fieldAddr rfl Try.underlying30 rfl Try.sizeOf3 rfl rfl) rfl rfl ?_
    refine d_q rfl (q_loadC rfl Try.isAgg3 rfl (fun _ h => h.at 1 rfl) rfl) rfl rfl ?_
    refine d_q rfl (q_eql rfl rfl rfl) rfl rfl ?_
    refine d_q rfl (q_pick_t rfl rfl rfl) rfl rfl ?_
    refine d_q rfl (q_move rfl rfl) rfl rfl ?_
    refine Pre.setB (t := 53) (c := true) rfl (by rfl) ?_
    refine d_q rfl (q_fieldAddr rfl Try.underlying30 rfl Try.sizeOf28 rfl rfl) rfl rfl ?_
    refine d_q rfl (q_loadCAgg ((late ky).val.c) rfl Try.isAgg28 Try.sizeOf28 rfl (fun _ h => h.at 1 rfl) (Ms.val_part _) (Kv.c_len _)) rfl rfl ?_
    refine d_e rfl ?_
    refine e_call_00 (rfrom_con 2 (by decide) (by decide)) rfl rfl rfl Try.call22 rfl (fun _ _ => trivial) ?_
    intro _ _
    refine d_held (fun _ h => h) ?_
    refine d_q rfl (q_eqVl ((late ky).val) ((vfrom 2)) rfl rfl rfl) rfl rfl ?_
    refine d_q rfl (q_pick_t rfl rfl rfl) rfl rfl ?_
    refine d_q rfl (q_move rfl rfl) rfl rfl ?_
    refine Pre.setB (t := 59) (c := true) rfl (decide_eq_true rfl) ?_
    refine d_q rfl (q_move rfl rfl) rfl rfl ?_
    refine d_q rfl (q_pick_t rfl rfl rfl) rfl rfl ?_
    refine d_q rfl (q_move rfl rfl) rfl rfl ?_
    refine d_q rfl (q_loadCAgg ((vfrom 2).c) rfl Try.isAgg28 Try.sizeOf28 rfl (fun _ h => h.at 0 rfl) (kv_whole _) (Kv.c_len _)) rfl rfl ?_
    refine d_e rfl ?_
    refine e_call_00 (rfrom_con 2 (by decide) (by decide)) rfl rfl rfl Try.call22 rfl (fun _ _ => trivial) ?_
    intro _ _
    refine d_held (fun _ h => h) ?_
    refine d_q rfl (q_eqVl ((vfrom 2)) ((vfrom 2)) rfl rfl rfl) rfl rfl ?_
    refine d_q rfl (q_pick_t rfl rfl rfl) rfl rfl ?_
    refine d_q rfl (q_move rfl rfl) rfl rfl ?_
    refine Pre.setB (t := 67) (c := true) rfl (decide_eq_true rfl) ?_
    refine d_q rfl (q_loadCAgg ((two ky).c) rfl Try.isAgg30 Try.sizeOf30 rfl (fun _ h => h.at 3 rfl) (ms_whole _) (Ms.c_len _)) rfl rfl ?_
    refine d_e rfl ?_
    refine e_call_00 (mbytes_spec _) rfl rfl rfl Try.call11 rfl (fun _ _ => trivial) ?_
    intro _ _
    refine d_held (fun _ h => h) ?_
    refine d_q rfl (q_eql rfl rfl rfl) rfl rfl ?_
    refine d_q rfl (q_pick_t rfl rfl rfl) rfl rfl ?_
    refine d_q rfl (q_assign rfl rfl) rfl rfl ?_
    refine d_nil ?_
    refine k_then ?_
    refine c_ret ?_
    refine r_one rfl rfl ?_
    exact fun _ h => ⟨(), congrArg (fun z => Ending.returned (Value.bool z)) (show decide (mby (two ky) = 19) = true from decide_eq_true (by2 hk1 hk2)), trivial, h.nothing⟩
end Go.Proofs.Ytmnokoepimhelaa
