/- keys: awake -/
import Derived.Test.YtaojcncmbbgmcaaO
set_option linter.unusedVariables false
set_option linter.unusedSimpArgs false
namespace Go.Proofs.Ytaojcncmbbgmcaa
open Go.Sep Go.RowKit

theorem of_yes (s : ByteArray) (h : s.size ≤ 8) : Con Try.prog 11 [.string s] (fun _ => True) [] (fun _ : Unit => .tuple #[.agg (kof s h).c.toArray, .int .i64 0]) (fun _ => True) (fun _ => []) := fun w hE hH =>
  (of_spec s (by omega) w hE hH).mono (fun e w' ⟨_, he, _, hs⟩ => ⟨(), by rw [he]; exact congrArg Ending.returned (dif_pos h), trivial, hs⟩)
theorem of_no (s : ByteArray) (hs : s.size ≤ 9223372036854775807) (h : ¬ s.size ≤ 8) : Con Try.prog 11 [.string s] (fun _ => True) [] (fun _ : Unit => .tuple #[.agg (kv0 8).c.toArray, .int .i64 2]) (fun _ => True) (fun _ => []) := fun w hE hH =>
  (of_spec s hs w hE hH).mono (fun e w' ⟨_, he, _, hs⟩ => ⟨(), by rw [he]; exact congrArg Ending.returned (dif_neg h), trivial, hs⟩)
def ka : Kv 8 := kof ⟨#[97]⟩ (by decide)
def kb : Kv 8 := kof ⟨#[98]⟩ (by decide)
theorem kof_ck (s : ByteArray) (h : s.size ≤ 8) : kck (kof s h) = true := by unfold kof; exact kmk_ck _ _ _
theorem ka_ck : kck ka = true := kof_ck _ _
theorem ka_next {z : Kv 8 × Bool} (h : NextOf ka z) : z.2 = true ∧ tx z.1 = [97, 0] := by
  have e : tn (tx ka) = some [97, 0] := by unfold ka; rw [tx_kof]; decide +kernel
  rcases h with ⟨h1, _, h2⟩ | ⟨_, _, h2⟩
  · rw [e] at h2; exact ⟨h1, (Option.some.inj h2).symm⟩
  · rw [e] at h2; cases h2
theorem kab : kcmp ka kb = -1 := by unfold kcmp ka kb; rw [tx_kof, tx_kof]; decide +kernel
theorem kba : kcmp kb ka = 1 := by unfold kcmp ka kb; rw [tx_kof, tx_kof]; decide +kernel
theorem kb_ck : kck kb = true := kof_ck _ _
theorem kab_ne : ka ≠ kb := by decide +kernel
theorem of_ka : Con Try.prog 11 [.string ⟨#[97]⟩] (fun _ => True) [] (fun _ : Unit => .tuple #[.agg ka.c.toArray, .int .i64 0]) (fun _ => True) (fun _ => []) := of_yes _ _
theorem of_kb : Con Try.prog 11 [.string ⟨#[98]⟩] (fun _ => True) [] (fun _ : Unit => .tuple #[.agg kb.c.toArray, .int .i64 0]) (fun _ => True) (fun _ => []) := of_yes _ _
theorem kinds2 : (dd [ka, kb, ka]).length = 2 := by decide +kernel
theorem order2 : (oi [kb, ka, kb]).length = 2 := by
  simp [oi, insK, ka_ck, kb_ck, kab, kba, kab_ne, kab_ne.symm, show ¬ kcmp kb kb < 0 from kcmp_irr]
set_option maxRecDepth 100000 in
set_option maxHeartbeats 1000000 in
theorem awake_spec : Con Try.prog 10 [] (fun _ => True) [] (fun _ : Unit => .bool true) (fun _ => True) (fun _ => []) := by
  intro w hE hH
  refine enter (n := 76) (vs := []) (St w [] []) Try.func10 rfl rfl rfl (St.init hH) ?_
  refine c_seq ?_
  have hk2 := kinds2
  have ho2 := order2
  have hkab := kab
  have hck := ka_ck
  refine c_region _ rfl ?_
  refine l_q rfl (q_assign rfl rfl) rfl rfl ?_
  refine l_nil ?_
  refine k_then ?_
  refine c_seq ?_
  refine c_region _ rfl ?_
  refine l_e rfl ?_
  refine e_call_00 (of_ka) rfl rfl rfl Try.call11 rfl (fun _ _ => trivial) ?_
  intro _ _
  refine l_q rfl (q_move rfl rfl) rfl rfl ?_
  refine l_q rfl (q_extract rfl rfl rfl) rfl rfl ?_
  refine l_q rfl (q_extract rfl rfl rfl) rfl rfl ?_
  refine l_e rfl ?_
  refine e_alloc rfl rfl rfl Try.zeroValue24 ?_
  intro b1
  refine cells_eq (show _ = kc 0 z8 from rfl) ?_
  refine l_e rfl ?_
  refine e_storeAgg rfl rfl Try.sizeOf24 rfl rfl (Kv.c_len _) (Kv.one _) (by rw [show ((ka).c).length = 9 from Kv.c_len _, kc_len z8_len]; decide) ?_
  refine cells_eq (show Sep.splice _ 0 (ka).c = (ka).c from Sep.splice_all (by rw [Kv.c_len, kc_len z8_len])) ?_
  refine l_q rfl (q_assign rfl rfl) rfl rfl ?_
  refine l_nil ?_
  refine k_then ?_
  refine c_seq ?_
  refine c_region _ rfl ?_
  refine l_e rfl ?_
  refine e_call_00 (of_kb) rfl rfl rfl Try.call11 rfl (fun _ _ => trivial) ?_
  intro _ _
  refine l_q rfl (q_move rfl rfl) rfl rfl ?_
  refine l_q rfl (q_extract rfl rfl rfl) rfl rfl ?_
  refine l_q rfl (q_extract rfl rfl rfl) rfl rfl ?_
  refine l_e rfl ?_
  refine e_alloc rfl rfl rfl Try.zeroValue24 ?_
  intro b2
  refine cells_eq (show _ = kc 0 z8 from rfl) ?_
  refine l_e rfl ?_
  refine e_storeAgg rfl rfl Try.sizeOf24 rfl rfl (Kv.c_len _) (Kv.one _) (by rw [show ((kb).c).length = 9 from Kv.c_len _, kc_len z8_len]; decide) ?_
  refine cells_eq (show Sep.splice _ 0 (kb).c = (kb).c from Sep.splice_all (by rw [Kv.c_len, kc_len z8_len])) ?_
  refine l_q rfl (q_assign rfl rfl) rfl rfl ?_
  refine l_nil ?_
  refine k_then ?_
  refine c_seq ?_
  refine c_region _ rfl ?_
  refine l_e rfl ?_
  refine e_call_00 (of_no ⟨#[110, 105, 110, 101, 98, 121, 116, 101, 115]⟩ (by decide) (by decide)) rfl rfl rfl Try.call11 rfl (fun _ _ => trivial) ?_
  intro _ _
  refine l_q rfl (q_move rfl rfl) rfl rfl ?_
  refine l_q rfl (q_extract rfl rfl rfl) rfl rfl ?_
  refine l_q rfl (q_extract rfl rfl rfl) rfl rfl ?_
  refine l_e rfl ?_
  refine e_alloc rfl rfl rfl Try.zeroValue24 ?_
  intro b3
  refine cells_eq (show _ = kc 0 z8 from rfl) ?_
  refine l_e rfl ?_
  refine e_storeAgg rfl rfl Try.sizeOf24 rfl rfl (Kv.c_len _) (Kv.one _) (by rw [show (((kv0 8)).c).length = 9 from Kv.c_len _, kc_len z8_len]; decide) ?_
  refine cells_eq (show Sep.splice _ 0 ((kv0 8)).c = ((kv0 8)).c from Sep.splice_all (by rw [Kv.c_len, kc_len z8_len])) ?_
  refine l_q rfl (q_assign rfl rfl) rfl rfl ?_
  refine l_nil ?_
  refine k_then ?_
  refine c_seq ?_
  refine c_region _ rfl ?_
  refine l_q rfl (q_loadCAgg (ka.c) rfl Try.isAgg24 Try.sizeOf24 rfl (fun _ h => h.at 2 rfl) (kv_whole _) (Kv.c_len _)) rfl rfl ?_
  refine l_e rfl ?_
  refine e_call_00 (next_spec ka ka_ck) rfl rfl rfl Try.call22 rfl (fun _ _ => trivial) ?_
  intro z hz
  refine l_q rfl (q_move rfl rfl) rfl rfl ?_
  refine l_q rfl (q_extract rfl rfl rfl) rfl rfl ?_
  refine l_q rfl (q_extract rfl rfl rfl) rfl rfl ?_
  refine l_e rfl ?_
  refine e_alloc rfl rfl rfl Try.zeroValue24 ?_
  intro b4
  refine cells_eq (show _ = kc 0 z8 from rfl) ?_
  refine l_e rfl ?_
  refine e_storeAgg rfl rfl Try.sizeOf24 rfl rfl (Kv.c_len _) (Kv.one _) (by rw [show ((z.1).c).length = 9 from Kv.c_len _, kc_len z8_len]; decide) ?_
  refine cells_eq (show Sep.splice _ 0 (z.1).c = (z.1).c from Sep.splice_all (by rw [Kv.c_len, kc_len z8_len])) ?_
  refine l_q rfl (q_assign rfl rfl) rfl rfl ?_
  refine l_nil ?_
  refine k_then ?_
  refine c_seq ?_
  refine c_region _ rfl ?_
  refine l_q rfl (q_move rfl rfl) rfl rfl ?_
  refine l_q rfl (q_eql rfl rfl rfl) rfl rfl ?_
  refine l_q rfl (q_move rfl rfl) rfl rfl ?_
  refine Pre.setB (t := 28) (c := true) rfl (by first | rfl | exact (ka_next hz).1 | (rw [(ka_next hz).2]; decide +kernel) | (rw [kab]; rfl) | exact ka_ck | (rw [show kck (kz 8 9 (by decide)) = false from kck_hi (by decide)]; rfl) | (rw [kinds2]; rfl) | (rw [order2]; rfl)) ?_
  refine l_q rfl (q_move rfl rfl) rfl rfl ?_
  refine l_q rfl (q_eql rfl rfl rfl) rfl rfl ?_
  refine l_q rfl (q_pick_t rfl rfl rfl) rfl rfl ?_
  refine l_q rfl (q_move rfl rfl) rfl rfl ?_
  refine Pre.setB (t := 32) (c := true) rfl (by first | rfl | exact (ka_next hz).1 | (rw [(ka_next hz).2]; decide +kernel) | (rw [kab]; rfl) | exact ka_ck | (rw [show kck (kz 8 9 (by decide)) = false from kck_hi (by decide)]; rfl) | (rw [kinds2]; rfl) | (rw [order2]; rfl)) ?_
  refine l_q rfl (q_move rfl rfl) rfl rfl ?_
  refine l_q rfl (q_eql rfl rfl rfl) rfl rfl ?_
  refine l_q rfl (q_pick_t rfl rfl rfl) rfl rfl ?_
  refine l_q rfl (q_move rfl rfl) rfl rfl ?_
  refine Pre.setB (t := 36) (c := true) rfl (by first | rfl | exact (ka_next hz).1 | (rw [(ka_next hz).2]; decide +kernel) | (rw [kab]; rfl) | exact ka_ck | (rw [show kck (kz 8 9 (by decide)) = false from kck_hi (by decide)]; rfl) | (rw [kinds2]; rfl) | (rw [order2]; rfl)) ?_
  refine l_q rfl (q_move rfl rfl) rfl rfl ?_
  refine l_q rfl (q_pick_t rfl rfl rfl) rfl rfl ?_
  refine l_q rfl (q_move rfl rfl) rfl rfl ?_
  refine Pre.setB (t := 39) (c := true) rfl (by first | rfl | exact (ka_next hz).1 | (rw [(ka_next hz).2]; decide +kernel) | (rw [kab]; rfl) | exact ka_ck | (rw [show kck (kz 8 9 (by decide)) = false from kck_hi (by decide)]; rfl) | (rw [kinds2]; rfl) | (rw [order2]; rfl)) ?_
  refine l_q rfl (q_loadCAgg (z.1.c) rfl Try.isAgg24 Try.sizeOf24 rfl (fun _ h => h.at 0 rfl) (kv_whole _) (Kv.c_len _)) rfl rfl ?_
  refine l_e rfl ?_
  refine e_call_00 (text_spec z.1) rfl rfl rfl Try.call15 rfl (fun _ _ => trivial) ?_
  intro _ _
  refine l_q rfl (q_eqs rfl rfl rfl) rfl rfl ?_
  refine l_q rfl (q_pick_t rfl rfl rfl) rfl rfl ?_
  refine l_q rfl (q_move rfl rfl) rfl rfl ?_
  refine Pre.setB (t := 44) (c := true) rfl (by first | rfl | exact (ka_next hz).1 | (rw [(ka_next hz).2]; decide +kernel) | (rw [kab]; rfl) | exact ka_ck | (rw [show kck (kz 8 9 (by decide)) = false from kck_hi (by decide)]; rfl) | (rw [kinds2]; rfl) | (rw [order2]; rfl)) ?_
  refine l_q rfl (q_loadCAgg (ka.c) rfl Try.isAgg24 Try.sizeOf24 rfl (fun _ h => h.at 3 rfl) (kv_whole _) (Kv.c_len _)) rfl rfl ?_
  refine l_q rfl (q_loadCAgg (kb.c) rfl Try.isAgg24 Try.sizeOf24 rfl (fun _ h => h.at 2 rfl) (kv_whole _) (Kv.c_len _)) rfl rfl ?_
  refine l_e rfl ?_
  refine e_call_00 (cmp_spec ka kb) rfl rfl rfl Try.call24 rfl (fun _ _ => trivial) ?_
  intro _ _
  refine l_q rfl (q_eql rfl rfl rfl) rfl rfl ?_
  refine l_q rfl (q_pick_t rfl rfl rfl) rfl rfl ?_
  refine l_q rfl (q_move rfl rfl) rfl rfl ?_
  refine Pre.setB (t := 50) (c := true) rfl (by first | rfl | exact (ka_next hz).1 | (rw [(ka_next hz).2]; decide +kernel) | (rw [kab]; rfl) | exact ka_ck | (rw [show kck (kz 8 9 (by decide)) = false from kck_hi (by decide)]; rfl) | (rw [kinds2]; rfl) | (rw [order2]; rfl)) ?_
  refine l_q rfl (q_loadCAgg (ka.c) rfl Try.isAgg24 Try.sizeOf24 rfl (fun _ h => h.at 3 rfl) (kv_whole _) (Kv.c_len _)) rfl rfl ?_
  refine l_e rfl ?_
  refine e_call_00 (kcheck_spec ka) rfl rfl rfl Try.call13 rfl (fun _ _ => trivial) ?_
  intro _ _
  refine l_q rfl (q_pick_t rfl rfl rfl) rfl rfl ?_
  refine l_q rfl (q_move rfl rfl) rfl rfl ?_
  refine Pre.setB (t := 54) (c := true) rfl (by first | rfl | exact (ka_next hz).1 | (rw [(ka_next hz).2]; decide +kernel) | (rw [kab]; rfl) | exact ka_ck | (rw [show kck (kz 8 9 (by decide)) = false from kck_hi (by decide)]; rfl) | (rw [kinds2]; rfl) | (rw [order2]; rfl)) ?_
  refine l_q rfl (q_build ((kz 8 9 (by decide)).c) rfl rfl (fun w => by kernel_rfl)) rfl rfl ?_
  refine l_e rfl ?_
  refine e_call_00 (kcheck_spec (kz 8 9 (by decide))) rfl rfl rfl Try.call13 rfl (fun _ _ => trivial) ?_
  intro _ _
  refine l_q rfl (q_not rfl rfl) rfl rfl ?_
  refine l_q rfl (q_pick_t rfl rfl rfl) rfl rfl ?_
  refine l_q rfl (q_move rfl rfl) rfl rfl ?_
  refine Pre.setB (t := 59) (c := true) rfl (by first | rfl | exact (ka_next hz).1 | (rw [(ka_next hz).2]; decide +kernel) | (rw [kab]; rfl) | exact ka_ck | (rw [show kck (kz 8 9 (by decide)) = false from kck_hi (by decide)]; rfl) | (rw [kinds2]; rfl) | (rw [order2]; rfl)) ?_
  refine l_q rfl (q_loadCAgg (ka.c) rfl Try.isAgg24 Try.sizeOf24 rfl (fun _ h => h.at 3 rfl) (kv_whole _) (Kv.c_len _)) rfl rfl ?_
  refine l_q rfl (q_loadCAgg (kb.c) rfl Try.isAgg24 Try.sizeOf24 rfl (fun _ h => h.at 2 rfl) (kv_whole _) (Kv.c_len _)) rfl rfl ?_
  refine l_q rfl (q_loadCAgg (ka.c) rfl Try.isAgg24 Try.sizeOf24 rfl (fun _ h => h.at 3 rfl) (kv_whole _) (Kv.c_len _)) rfl rfl ?_
  refine l_e rfl ?_
  refine e_buildSliceV (sz := 9) [.tmp 60, .tmp 61, .tmp 62] rfl rfl rfl rfl rfl Try.underlying25 Try.sizeOf24 rfl Try.zeroValue24 (by simp [Value.cells, Kv.c_len]) ?_
  intro b5
  refine l_e rfl ?_
  refine e_call_00 (kinds_spec [ka, kb, ka] (by decide)) rfl rfl rfl Try.call17 rfl (fun _ h => lit_rd (h.at 0 rfl) (Kv.enc 8) [ka, kb, ka] (by simp [cellsOf, Enc.flat, Kv.enc, Value.cells]) rfl) ?_
  intro _ _
  refine l_q rfl (q_eql rfl rfl rfl) rfl rfl ?_
  refine l_q rfl (q_pick_t rfl rfl rfl) rfl rfl ?_
  refine l_q rfl (q_move rfl rfl) rfl rfl ?_
  refine Pre.setB (t := 67) (c := true) rfl (by first | rfl | exact (ka_next hz).1 | (rw [(ka_next hz).2]; decide +kernel) | (rw [kab]; rfl) | exact ka_ck | (rw [show kck (kz 8 9 (by decide)) = false from kck_hi (by decide)]; rfl) | (rw [kinds2]; rfl) | (rw [order2]; rfl)) ?_
  refine l_q rfl (q_loadCAgg (kb.c) rfl Try.isAgg24 Try.sizeOf24 rfl (fun _ h => h.at 3 rfl) (kv_whole _) (Kv.c_len _)) rfl rfl ?_
  refine l_q rfl (q_loadCAgg (ka.c) rfl Try.isAgg24 Try.sizeOf24 rfl (fun _ h => h.at 4 rfl) (kv_whole _) (Kv.c_len _)) rfl rfl ?_
  refine l_q rfl (q_loadCAgg (kb.c) rfl Try.isAgg24 Try.sizeOf24 rfl (fun _ h => h.at 3 rfl) (kv_whole _) (Kv.c_len _)) rfl rfl ?_
  refine l_e rfl ?_
  refine e_buildSliceV (sz := 9) [.tmp 68, .tmp 69, .tmp 70] rfl rfl rfl rfl rfl Try.underlying25 Try.sizeOf24 rfl Try.zeroValue24 (by simp [Value.cells, Kv.c_len]) ?_
  intro b6
  refine l_e rfl ?_
  refine e_call_01 (order_spec [kb, ka, kb] (by decide)) rfl rfl rfl Try.call20 rfl (fun _ h => lit_rd (h.at 0 rfl) (Kv.enc 8) [kb, ka, kb] (by simp [cellsOf, Enc.flat, Kv.enc, Value.cells]) rfl) ?_
  intro v _
  refine l_q rfl (q_lenV rfl Try.underlying25 rfl (fun _ h => h.rd 0 rfl)) rfl rfl ?_
  refine l_q rfl (q_eql rfl rfl rfl) rfl rfl ?_
  refine l_q rfl (q_pick_t rfl rfl rfl) rfl rfl ?_
  refine l_q rfl (q_assign rfl rfl) rfl rfl ?_
  refine l_nil ?_
  refine k_then ?_
  refine c_ret ?_
  refine r_one rfl rfl ?_
  exact fun _ h => ⟨(), congrArg (fun z => Ending.returned (Value.bool z)) (by rw [order2]; rfl), trivial, h.nothing⟩
end Go.Proofs.Ytaojcncmbbgmcaa
