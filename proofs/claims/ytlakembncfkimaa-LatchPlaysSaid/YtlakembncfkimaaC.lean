/- slices: Delete -/
import Derived.Test.YtlakembncfkimaaB
set_option linter.unusedVariables false
set_option linter.unusedSimpArgs false
namespace Go.Proofs.Ytlakembncfkimaa
open Go.Sep Go.RowKit

set_option maxRecDepth 100000 in
set_option maxHeartbeats 1000000 in
theorem delete_spec {v : Value} (l : List Int) (i : Nat) (hi : i < l.length) (hn : l.length ≤ 65536) : Con Try.prog 35 [v, .int .i64 (i : Int), .int .i64 ((i : Int) + 1)] (fun _ => True) [rowE v 3 (encI .i64) l] (fun v : Value => v) (fun _ => True) (fun v => [rowE v 3 (encI .i64) (l.eraseIdx i)]) := by
  intro w hE hH
  obtain ⟨bb, oo, cc, rfl⟩ := rd_open (rowE_rd (hH.holds _ (List.mem_cons_self ..))) (show 0 < l.length by omega)
  refine enter (n := 33) (vs := [(.slice (some ⟨bb, oo, none⟩) l.length cc), .int .i64 (i : Int), .int .i64 ((i : Int) + 1)]) (St w (dom [rowE (.slice (some ⟨bb, oo, none⟩) l.length cc) 3 (encI .i64) l]) [rowE (.slice (some ⟨bb, oo, none⟩) l.length cc) 3 (encI .i64) l]) Try.func35 rfl rfl rfl (St.init hH) ?_
  refine c_seq ?_
  refine Pre.fact (fun _ h => (h.rd 0 rfl).cap) ?_
  intro hcap
  refine c_region _ rfl ?_
  refine l_q rfl (q_assign rfl rfl) rfl rfl ?_
  refine l_nil ?_
  refine k_then ?_
  refine c_seq ?_
  refine c_region _ rfl ?_
  refine l_q rfl (q_move rfl rfl) rfl rfl ?_
  refine l_q rfl (q_move rfl rfl) rfl rfl ?_
  refine l_q rfl (q_move rfl rfl) rfl rfl ?_
  refine l_q rfl (q_move rfl rfl) rfl rfl ?_
  refine l_q rfl (q_lenV rfl Try.underlying27 rfl (fun _ h => h.rd 0 rfl)) rfl rfl ?_
  refine l_q rfl (q_slice3 i (i + 1) l.length rfl Try.underlying27 Try.sizeOf3 rfl (fun _ h => h.rd 0 rfl) rfl rfl rfl rfl rfl rfl (by omega) (by omega) (by omega)) rfl rfl ?_
  refine l_nil ?_
  refine k_then ?_
  refine c_seq ?_
  refine c_seq ?_
  refine c_region _ rfl ?_
  refine l_q rfl (q_move rfl rfl) rfl rfl ?_
  refine l_q rfl (q_move rfl rfl) rfl rfl ?_
  refine l_q rfl (q_eql rfl rfl rfl) rfl rfl ?_
  refine l_nil ?_
  refine k_then ?_
  refine Pre.setB (t := 16) (c := false) rfl (decide_eq_false (by omega)) ?_
  refine c_false rfl ?_
  refine c_skip ?_
  refine k_then ?_
  refine c_seq ?_
  refine c_region _ rfl ?_
  refine l_q rfl (q_move rfl rfl) rfl rfl ?_
  refine l_q rfl (q_lenV rfl Try.underlying27 rfl (fun _ h => h.rd 0 rfl)) rfl rfl ?_
  refine l_q rfl (q_assign rfl rfl) rfl rfl ?_
  refine l_nil ?_
  refine k_then ?_
  refine c_seq ?_
  refine c_draw [(0, some true), (1, some true), (2, some true), (3, some true), (4, some true), (5, some true), (6, some false), (7, some true)] [] [(_, some true), (_, some true), (_, some true), (_, some true), (_, some true), (_, some true), (_, some false), (_, some true)] (fun _ => True) (blind_then blind_body) rfl (by kernel_rfl) (by kernel_rfl) rfl rfl rfl (by kernel_rfl) St.drawn (fun _ _ => trivial) ?_
  refine d_q rfl (q_move rfl rfl) rfl rfl ?_
  refine d_q rfl (q_move rfl rfl) rfl rfl ?_
  refine d_q rfl (q_sliceH i rfl Try.underlying27 Try.sizeOf3 rfl rfl rfl (by have : l.length ≤ cc := hcap; omega)) rfl rfl ?_
  refine d_q rfl (q_move rfl rfl) rfl rfl ?_
  refine d_q rfl (q_move rfl rfl) rfl rfl ?_
  refine d_q rfl (q_sliceL (i + 1) rfl Try.underlying27 Try.sizeOf3 rfl rfl rfl (by omega)) rfl rfl ?_
  refine Pre.setV (t := 22) (c := vsl (.slice (some ⟨bb, oo, none⟩) l.length cc) (encI .i64).sz 0 i) rfl (by simp [vsl, add_none]) ?_
  refine Pre.setV (t := 25) (c := vsl (.slice (some ⟨bb, oo, none⟩) l.length cc) (encI .i64).sz (i + 1) l.length) rfl (by by_cases h9 : cc = i + 1 <;> simp [vsl, add_none, h9, encI, encW]) ?_
  have hcc : l.length ≤ vcap (.slice (some ⟨bb, oo, none⟩) l.length cc) := hcap
  refine d_e rfl ?_
  refine e_appendIn i rfl rfl rfl Try.underlying27 Try.underlying27 Try.sizeOf3 rfl rfl (fun _ h => vsl_rd (h.rd 0 rfl) (lo := i + 1) (hi := l.length) (by omega) (Nat.le_refl _)) (by simp only [List.length_drop, List.length_take]; omega) ?_
  intro v2 hc2
  refine row_eq (l' := l.eraseIdx i) (by rw [List.take_length, List.eraseIdx_eq_take_drop_succ]) ?_
  have hl2 : (l.eraseIdx i).length = l.length - 1 := by rw [List.length_eraseIdx]; simp; omega
  refine d_held (fun _ _ => trivial) ?_
  refine d_q rfl (q_assign rfl rfl) rfl rfl ?_
  refine d_nil ?_
  refine k_then ?_
  refine c_seq ?_
  refine c_region _ rfl ?_
  refine l_q rfl (q_move rfl rfl) rfl rfl ?_
  refine l_q rfl (q_move rfl rfl) rfl rfl ?_
  refine l_q rfl (q_lenV rfl Try.underlying27 rfl (fun _ h => h.rd 0 rfl)) rfl rfl ?_
  refine l_q rfl (q_move rfl rfl) rfl rfl ?_
  refine l_q rfl (q_sliceC (l.eraseIdx i).length l.length rfl Try.underlying27 Try.sizeOf3 rfl (fun _ h => h.rd 0 rfl) rfl rfl rfl rfl (by omega) (by omega)) rfl rfl ?_
  refine l_e rfl ?_
  refine e_clearTail rfl rfl Try.underlying27 info3 rfl rfl (by decide) rfl (by omega) (by omega) ?_
  refine l_nil ?_
  refine k_then ?_
  refine c_seq ?_
  refine c_region _ rfl ?_
  refine l_q rfl (q_move rfl rfl) rfl rfl ?_
  refine l_q rfl (q_assign rfl rfl) rfl rfl ?_
  refine l_nil ?_
  refine k_then ?_
  refine c_ret ?_
  refine r_one rfl rfl ?_
  exact fun _ h => ⟨v2, rfl, trivial, h⟩
set_option maxRecDepth 100000 in
set_option maxHeartbeats 1000000 in
theorem deletew_spec {v : Value} (l : List Wt) (i : Nat) (hi : i < l.length) (hn : l.length ≤ 65536) : Con Try.prog 37 [v, .int .i64 (i : Int), .int .i64 ((i : Int) + 1)] (fun _ => True) [rowE v 41 encW l] (fun v : Value => v) (fun _ => True) (fun v => [rowE v 41 encW (l.eraseIdx i)]) := by
  intro w hE hH
  obtain ⟨bb, oo, cc, rfl⟩ := rd_open (rowE_rd (hH.holds _ (List.mem_cons_self ..))) (show 0 < l.length by omega)
  refine enter (n := 33) (vs := [(.slice (some ⟨bb, oo, none⟩) l.length cc), .int .i64 (i : Int), .int .i64 ((i : Int) + 1)]) (St w (dom [rowE (.slice (some ⟨bb, oo, none⟩) l.length cc) 41 encW l]) [rowE (.slice (some ⟨bb, oo, none⟩) l.length cc) 41 encW l]) Try.func37 rfl rfl rfl (St.init hH) ?_
  refine c_seq ?_
  refine Pre.fact (fun _ h => (h.rd 0 rfl).cap) ?_
  intro hcap
  refine c_region _ rfl ?_
  refine l_q rfl (q_assign rfl rfl) rfl rfl ?_
  refine l_nil ?_
  refine k_then ?_
  refine c_seq ?_
  refine c_region _ rfl ?_
  refine l_q rfl (q_move rfl rfl) rfl rfl ?_
  refine l_q rfl (q_move rfl rfl) rfl rfl ?_
  refine l_q rfl (q_move rfl rfl) rfl rfl ?_
  refine l_q rfl (q_move rfl rfl) rfl rfl ?_
  refine l_q rfl (q_lenV rfl Try.underlying33 rfl (fun _ h => h.rd 0 rfl)) rfl rfl ?_
  refine l_q rfl (q_slice3 i (i + 1) l.length rfl Try.underlying33 Try.sizeOf41 rfl (fun _ h => h.rd 0 rfl) rfl rfl rfl rfl rfl rfl (by omega) (by omega) (by omega)) rfl rfl ?_
  refine l_nil ?_
  refine k_then ?_
  refine c_seq ?_
  refine c_seq ?_
  refine c_region _ rfl ?_
  refine l_q rfl (q_move rfl rfl) rfl rfl ?_
  refine l_q rfl (q_move rfl rfl) rfl rfl ?_
  refine l_q rfl (q_eql rfl rfl rfl) rfl rfl ?_
  refine l_nil ?_
  refine k_then ?_
  refine Pre.setB (t := 16) (c := false) rfl (decide_eq_false (by omega)) ?_
  refine c_false rfl ?_
  refine c_skip ?_
  refine k_then ?_
  refine c_seq ?_
  refine c_region _ rfl ?_
  refine l_q rfl (q_move rfl rfl) rfl rfl ?_
  refine l_q rfl (q_lenV rfl Try.underlying33 rfl (fun _ h => h.rd 0 rfl)) rfl rfl ?_
  refine l_q rfl (q_assign rfl rfl) rfl rfl ?_
  refine l_nil ?_
  refine k_then ?_
  refine c_seq ?_
  refine c_draw [(0, some true), (1, some true), (2, some true), (3, some true), (4, some true), (5, some true), (6, some false), (7, some true)] [] [(_, some true), (_, some true), (_, some true), (_, some true), (_, some true), (_, some true), (_, some false), (_, some true)] (fun _ => True) (blind_then blind_body) rfl (by kernel_rfl) (by kernel_rfl) rfl rfl rfl (by kernel_rfl) St.drawn (fun _ _ => trivial) ?_
  refine d_q rfl (q_move rfl rfl) rfl rfl ?_
  refine d_q rfl (q_move rfl rfl) rfl rfl ?_
  refine d_q rfl (q_sliceH i rfl Try.underlying33 Try.sizeOf41 rfl rfl rfl (by have : l.length ≤ cc := hcap; omega)) rfl rfl ?_
  refine d_q rfl (q_move rfl rfl) rfl rfl ?_
  refine d_q rfl (q_move rfl rfl) rfl rfl ?_
  refine d_q rfl (q_sliceL (i + 1) rfl Try.underlying33 Try.sizeOf41 rfl rfl rfl (by omega)) rfl rfl ?_
  refine Pre.setV (t := 22) (c := vsl (.slice (some ⟨bb, oo, none⟩) l.length cc) encW.sz 0 i) rfl (by simp [vsl, add_none]) ?_
  refine Pre.setV (t := 25) (c := vsl (.slice (some ⟨bb, oo, none⟩) l.length cc) encW.sz (i + 1) l.length) rfl (by by_cases h9 : cc = i + 1 <;> simp [vsl, add_none, h9, encI, encW]) ?_
  have hcc : l.length ≤ vcap (.slice (some ⟨bb, oo, none⟩) l.length cc) := hcap
  refine d_e rfl ?_
  refine e_appendIn i rfl rfl rfl Try.underlying33 Try.underlying33 Try.sizeOf41 rfl rfl (fun _ h => vsl_rd (h.rd 0 rfl) (lo := i + 1) (hi := l.length) (by omega) (Nat.le_refl _)) (by simp only [List.length_drop, List.length_take]; omega) ?_
  intro v2 hc2
  refine row_eq (l' := l.eraseIdx i) (by rw [List.take_length, List.eraseIdx_eq_take_drop_succ]) ?_
  have hl2 : (l.eraseIdx i).length = l.length - 1 := by rw [List.length_eraseIdx]; simp; omega
  refine d_held (fun _ _ => trivial) ?_
  refine d_q rfl (q_assign rfl rfl) rfl rfl ?_
  refine d_nil ?_
  refine k_then ?_
  refine c_seq ?_
  refine c_region _ rfl ?_
  refine l_q rfl (q_move rfl rfl) rfl rfl ?_
  refine l_q rfl (q_move rfl rfl) rfl rfl ?_
  refine l_q rfl (q_lenV rfl Try.underlying33 rfl (fun _ h => h.rd 0 rfl)) rfl rfl ?_
  refine l_q rfl (q_move rfl rfl) rfl rfl ?_
  refine l_q rfl (q_sliceC (l.eraseIdx i).length l.length rfl Try.underlying33 Try.sizeOf41 rfl (fun _ h => h.rd 0 rfl) rfl rfl rfl rfl (by omega) (by omega)) rfl rfl ?_
  refine l_e rfl ?_
  refine e_clearTail rfl rfl Try.underlying33 info41 rfl rfl (by decide) rfl (by omega) (by omega) ?_
  refine l_nil ?_
  refine k_then ?_
  refine c_seq ?_
  refine c_region _ rfl ?_
  refine l_q rfl (q_move rfl rfl) rfl rfl ?_
  refine l_q rfl (q_assign rfl rfl) rfl rfl ?_
  refine l_nil ?_
  refine k_then ?_
  refine c_ret ?_
  refine r_one rfl rfl ?_
  exact fun _ h => ⟨v2, rfl, trivial, h⟩
end Go.Proofs.Ytlakembncfkimaa
