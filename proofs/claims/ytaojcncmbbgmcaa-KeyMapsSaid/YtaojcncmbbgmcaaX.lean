/- keys: what Of tells -/
import Derived.Test.YtaojcncmbbgmcaaV
set_option linter.unusedVariables false
set_option linter.unusedSimpArgs false
namespace Go.Proofs.Ytaojcncmbbgmcaa
open Go.Sep Go.RowKit

set_option maxRecDepth 100000 in
set_option maxHeartbeats 1000000 in
theorem rof_no (s : ByteArray) (hm : s.size ≤ 9223372036854775807) (hs : ¬ s.size ≤ 8) : Con Try.prog 12 [.string s] (fun _ => True) [] (fun _ : Unit => .tuple #[.agg (kv0 8).c.toArray, .int .i64 2]) (fun _ => True) (fun _ => []) := by
  intro w hE hH
  refine enter (n := 27) (vs := [.string s]) (St w [] []) Try.func12 rfl rfl rfl (St.init hH) ?_
  refine c_seq ?_
  refine c_region _ rfl ?_
  refine l_e rfl ?_
  refine e_alloc rfl rfl rfl Try.zeroValue24 ?_
  intro br
  refine cells_eq (show _ = kc 0 z8 from rfl) ?_
  refine l_q rfl (q_assign rfl rfl) rfl rfl ?_
  refine l_nil ?_
  refine k_then ?_
  refine c_seq ?_
  refine c_region _ rfl ?_
  refine l_q rfl (q_build (kc 0 z8) rfl rfl (fun w => by kernel_rfl)) rfl rfl ?_
  refine l_e rfl ?_
  refine e_alloc rfl rfl rfl Try.zeroValue24 ?_
  intro bk
  refine cells_eq (show _ = kc 0 z8 from rfl) ?_
  refine l_e rfl ?_
  refine e_storeAgg rfl rfl Try.sizeOf24 rfl rfl rfl kc_one (Nat.le_of_ble_eq_true rfl) ?_
  refine cells_eq (kc_all z8_len z8_len) ?_
  refine l_nil ?_
  refine k_then ?_
  refine c_seq ?_
  refine c_seq ?_
  refine c_region _ rfl ?_
  refine l_q rfl (q_move rfl rfl) rfl rfl ?_
  refine l_q rfl (q_lenS rfl Try.underlying9 rfl) rfl rfl ?_
  refine l_q rfl (q_gtr rfl rfl rfl) rfl rfl ?_
  refine l_nil ?_
  refine k_then ?_
  refine Pre.setB (t := 9) (c := true) rfl (decide_eq_true (by omega)) ?_
  refine c_true rfl ?_
  refine c_seq ?_
  refine c_region _ rfl ?_
  refine l_q rfl (q_loadCAgg (kc 0 z8) rfl Try.isAgg24 Try.sizeOf24 rfl (fun _ h => h.at 0 rfl) (kc_whole z8_len) (kc_len z8_len)) rfl rfl ?_
  refine pull1 ?_
  refine l_e rfl ?_
  refine e_storeAgg rfl rfl Try.sizeOf24 rfl rfl rfl kc_one (Nat.le_of_ble_eq_true rfl) ?_
  refine cells_eq (kc_all z8_len z8_len) ?_
  refine l_q rfl (q_assign rfl rfl) rfl rfl ?_
  refine l_nil ?_
  refine k_then ?_
  refine c_ret ?_
  refine k_then_ret ?_
  refine r_res2 rfl (res_cellA rfl Try.isAgg24 Try.sizeOf24 (fun _ h => h.at 0 rfl) (kc_len z8_len)) (show Sep.look _ _ = some _ from rfl) ?_
  exact fun _ h => ⟨(), rfl, trivial, h.nothing⟩
def ofM (s : ByteArray) : Kv 8 × Int := if h : s.size ≤ 8 then (kof s h, 0) else (kv0 8, 2)
theorem of_all (s : ByteArray) (hm : s.size ≤ 9223372036854775807) : Con Try.prog 11 [.string s] (fun _ => True) [] (fun _ : Unit => .tuple #[.agg (ofM s).1.c.toArray, .int .i64 (ofM s).2]) (fun _ => True) (fun _ => []) := by
  unfold ofM
  by_cases h : s.size ≤ 8
  · rw [dif_pos h]; exact of_yes s h
  · rw [dif_neg h]; exact of_no s hm h
theorem rof_all (s : ByteArray) (hm : s.size ≤ 9223372036854775807) : Con Try.prog 12 [.string s] (fun _ => True) [] (fun _ : Unit => .tuple #[.agg (ofM s).1.c.toArray, .int .i64 (ofM s).2]) (fun _ => True) (fun _ => []) := by
  unfold ofM
  by_cases h : s.size ≤ 8
  · rw [dif_pos h]; exact rof_spec s h
  · rw [dif_neg h]; exact rof_no s hm h
end Go.Proofs.Ytaojcncmbbgmcaa
