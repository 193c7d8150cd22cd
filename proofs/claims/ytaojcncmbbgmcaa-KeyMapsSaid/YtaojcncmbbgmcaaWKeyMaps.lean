/- KeyMaps, walked -/
import Derived.Test.YtaojcncmbbgmcaaQ
set_option linter.unusedVariables false
set_option linter.unusedSimpArgs false
namespace Go.Proofs.Ytaojcncmbbgmcaa
open Go.Sep Go.RowKit

set_option maxRecDepth 100000 in
set_option maxHeartbeats 1000000 in
theorem maps_spec {va : Value} (l : List ByteArray) : Con Try.prog 9 [va] (fun w => RdV w va encS l) [] (fun _ : Unit => .bool true) (fun _ => True) (fun _ => []) := by
  intro w hl hH
  refine enter (n := 138) (vs := [va]) (St w [] []) Try.func9 rfl rfl rfl (St.init hH) ?_
  refine c_seq ?_
  refine c_region _ rfl ?_
  refine l_q rfl (q_assign rfl rfl) rfl rfl ?_
  refine l_nil ?_
  refine k_then ?_
  refine c_seq ?_
  refine c_seq ?_
  refine c_region _ rfl ?_
  refine l_q rfl (q_move rfl rfl) rfl rfl ?_
  refine l_q rfl (q_lenV rfl Try.underlying44 rfl (fun _ h => hl.keep h (by simp [dom]))) rfl rfl ?_
  refine l_q rfl (q_gtr rfl rfl rfl) rfl rfl ?_
  refine l_nil ?_
  refine k_then ?_
  refine Pre.caseB 14 rfl (fun h1 => ?_) (fun h1 => ?_)
  · try simp only [decide_eq_true_eq, decide_eq_false_iff_not, Bool.not_eq_true', Bool.not_eq_false'] at h1
    refine c_true rfl ?_
    refine c_seq ?_
    refine c_region _ rfl ?_
    refine l_e rfl ?_
    refine e_call_00 (awake_spec) rfl rfl rfl Try.call10 rfl (fun _ _ => trivial) ?_
    intro _ _
    refine l_q rfl (q_assign rfl rfl) rfl rfl ?_
    refine l_nil ?_
    refine k_then ?_
    refine c_ret ?_
    refine k_then_ret ?_
    refine r_one rfl rfl ?_
    exact fun _ h => ⟨(), rfl, trivial, h.nothing⟩
  · try simp only [decide_eq_true_eq, decide_eq_false_iff_not, Bool.not_eq_true', Bool.not_eq_false'] at h1
    refine c_false rfl ?_
    refine c_skip ?_
    refine k_then ?_
    refine c_seq ?_
    refine c_region _ rfl ?_
    refine l_e rfl ?_
    refine e_makeMapS kfK vI rfl rfl rfl ?_
    intro bm
    refine l_e rfl ?_
    refine e_makeMap Value.string vI rfl rfl rfl ?_
    intro bt
    refine l_e rfl ?_
    refine e_makeMapS kfP vI rfl rfl rfl ?_
    intro bp
    refine l_e rfl ?_
    refine e_makeMap Value.string vI rfl rfl rfl ?_
    intro bb
    refine l_q rfl (q_assign rfl rfl) rfl rfl ?_
    refine l_q rfl (q_assign rfl rfl) rfl rfl ?_
    refine l_q rfl (q_assign rfl rfl) rfl rfl ?_
    refine l_q rfl (q_assign rfl rfl) rfl rfl ?_
    refine l_nil ?_
    refine k_then ?_
    refine c_seq ?_
    refine c_region _ rfl ?_
    refine l_q rfl (q_assign rfl rfl) rfl rfl ?_
    refine l_nil ?_
    refine k_then ?_
    refine c_seq ?_
    refine c_seq ?_
    refine c_region _ rfl ?_
    refine l_q rfl (q_assign rfl rfl) rfl rfl ?_
    refine l_nil ?_
    refine k_then ?_
    refine c_block ?_
    refine row0 24 (Kv.enc 8) none ?_
    refine pull1 ?_
    refine pull2 ?_
    refine pull3 ?_
    refine pull4 ?_
    refine pull4 ?_
    refine c_loop2 (fun (i : Nat) (vk : Value) => [(0, va), (3, .map (some bm)), (4, .map (some bt)), (5, .map (some bp)), (6, .map (some bb)), (7, vk), (8, .int .i64 (i : Int))]) (fun (i : Nat) (vk : Value) => St w [] [rowE vk 24 (Kv.enc 8) (kl (l.take i)), mapS bm kfK vI (cntM (kl (l.take i))), mapE bt Value.string vI (cntM (l.take i)), mapS bp kfP vI (cntM ((adj l i).map fP)), mapE bb Value.string vI (cntM ((adj l i).map fB))]) (fun (i : Nat) (vk : Value) => i ≤ l.length ∧ ∀ s ∈ l.take i, s.size ≤ 8) (fun (i : Nat) (vk : Value) => l.length - i) (0) (.slice none 0 0) ⟨Nat.zero_le _, fun s h => absurd h List.not_mem_nil⟩ (Sub.cons rfl (Sub.cons rfl (Sub.cons rfl (Sub.cons rfl (Sub.cons rfl (Sub.cons rfl (Sub.cons rfl (Sub.nil)))))))) (fun _ h => h) ?_
    intro i vk hp
    refine c_seq ?_
    refine c_seq ?_
    obtain ⟨hi, hsh⟩ := hp
    have hkl := kl_len (l.take i)
    have htl := List.length_take_le i l
    refine c_region _ rfl ?_
    refine l_q rfl (q_move rfl rfl) rfl rfl ?_
    refine l_q rfl (q_move rfl rfl) rfl rfl ?_
    refine l_q rfl (q_lenV rfl Try.underlying44 rfl (fun _ h => hl.keep h (by simp [dom]))) rfl rfl ?_
    refine l_q rfl (q_lss rfl rfl rfl) rfl rfl ?_
    refine l_nil ?_
    refine k_then ?_
    refine Pre.caseB 23 rfl (fun h3 => ?_) (fun h3 => ?_)
    · try simp only [decide_eq_true_eq, decide_eq_false_iff_not, Bool.not_eq_true', Bool.not_eq_false'] at h3
      obtain ⟨x, hx⟩ : ∃ x, l[i]? = some x := ⟨_, List.getElem?_eq_getElem (by omega)⟩
      refine c_true rfl ?_
      refine c_skip ?_
      refine k_then ?_
      refine c_seq ?_
      refine c_block ?_
      refine c_seq ?_
      refine c_seq ?_
      refine c_region _ rfl ?_
      refine l_q rfl (q_move rfl rfl) rfl rfl ?_
      refine l_q rfl (q_move rfl rfl) rfl rfl ?_
      refine l_q rfl (q_indexV i rfl Try.underlying44 Try.sizeOf9 rfl (fun _ h => hl.keep h (by simp [dom])) rfl rfl (by omega)) rfl rfl ?_
      refine l_q rfl (q_loadV i 0 rfl Try.isAgg9 rfl rfl (fun _ h => hl.keep h (by simp [dom])) hx rfl) rfl rfl ?_
      refine l_q rfl (q_lenS rfl Try.underlying9 rfl) rfl rfl ?_
      refine l_q rfl (q_gtr rfl rfl rfl) rfl rfl ?_
      refine l_nil ?_
      refine k_then ?_
      refine Pre.caseB 31 rfl (fun h4 => ?_) (fun h4 => ?_)
      · try simp only [decide_eq_true_eq, decide_eq_false_iff_not, Bool.not_eq_true', Bool.not_eq_false'] at h4
        refine c_true rfl ?_
        refine c_seq ?_
        refine c_region _ rfl ?_
        refine l_e rfl ?_
        refine e_call_00 (awake_spec) rfl rfl rfl Try.call10 rfl (fun _ _ => trivial) ?_
        intro _ _
        refine l_q rfl (q_assign rfl rfl) rfl rfl ?_
        refine l_nil ?_
        refine k_then ?_
        refine c_ret ?_
        refine k_then_ret ?_
        refine k_block_ret ?_
        refine k_then_ret ?_
        refine k_then_ret ?_
        refine k_block_ret ?_
        refine k_then_ret ?_
        refine r_one rfl rfl ?_
        exact fun _ h => ⟨(), rfl, trivial, h.nothing⟩
      · try simp only [decide_eq_true_eq, decide_eq_false_iff_not, Bool.not_eq_true', Bool.not_eq_false'] at h4
        have hxs : x.size ≤ 8 := by omega
        have hx0 := ofM_zero hxs
        have hks := kl_snoc hx
        have htk : l.take (i + 1) = l.take i ++ [x] := by rw [List.take_add_one, hx]; rfl
        have hsh2 : ∀ s ∈ l.take (i + 1), s.size ≤ 8 := fun s h => by rw [htk] at h; rcases List.mem_append.1 h with h | h; exact hsh s h; rw [List.mem_singleton] at h; rw [h]; exact hxs
        refine c_false rfl ?_
        refine c_skip ?_
        refine k_then ?_
        refine c_seq ?_
        refine c_region _ rfl ?_
        refine l_q rfl (q_move rfl rfl) rfl rfl ?_
        refine l_q rfl (q_move rfl rfl) rfl rfl ?_
        refine l_q rfl (q_indexV i rfl Try.underlying44 Try.sizeOf9 rfl (fun _ h => hl.keep h (by simp [dom])) rfl rfl (by omega)) rfl rfl ?_
        refine l_q rfl (q_loadV i 0 rfl Try.isAgg9 rfl rfl (fun _ h => hl.keep h (by simp [dom])) hx rfl) rfl rfl ?_
        refine l_e rfl ?_
        refine e_call_00 (of_all x (by omega)) rfl rfl rfl Try.call11 rfl (fun _ _ => trivial) ?_
        intro _ _
        refine l_q rfl (q_move rfl rfl) rfl rfl ?_
        refine l_q rfl (q_extract rfl rfl rfl) rfl rfl ?_
        refine l_q rfl (q_extract rfl rfl rfl) rfl rfl ?_
        refine l_e rfl ?_
        refine e_alloc rfl rfl rfl Try.zeroValue24 ?_
        intro ba
        refine cells_eq (show _ = kc 0 z8 from rfl) ?_
        refine l_e rfl ?_
        refine e_storeAgg rfl rfl Try.sizeOf24 rfl rfl (Kv.c_len _) (Kv.one _) (by rw [show (((ofM x).1).c).length = 9 from Kv.c_len _, kc_len z8_len]; decide) ?_
        refine cells_eq (show Sep.splice _ 0 ((ofM x).1).c = ((ofM x).1).c from Sep.splice_all (by rw [Kv.c_len, kc_len z8_len])) ?_
        refine l_q rfl (q_assign rfl rfl) rfl rfl ?_
        refine l_nil ?_
        refine k_then ?_
        refine c_seq ?_
        refine c_seq ?_
        refine c_region _ rfl ?_
        refine l_q rfl (q_move rfl rfl) rfl rfl ?_
        refine l_q rfl (q_neq rfl rfl rfl) rfl rfl ?_
        refine l_nil ?_
        refine k_then ?_
        refine Pre.setB (t := 42) (c := false) rfl (by rw [hx0]; rfl) ?_
        refine c_false rfl ?_
        refine c_skip ?_
        refine k_then ?_
        refine c_seq ?_
        refine c_region _ rfl ?_
        refine l_q rfl (q_move rfl rfl) rfl rfl ?_
        refine l_q rfl (q_loadCAgg ((ofM x).1.c) rfl Try.isAgg24 Try.sizeOf24 rfl (fun _ h => h.at 0 rfl) (kv_whole _) (Kv.c_len _)) rfl rfl ?_
        refine l_e rfl ?_
        refine e_buildSliceV (sz := 9) [.tmp 44] rfl rfl rfl rfl rfl Try.underlying25 Try.sizeOf24 rfl Try.zeroValue24 (by simp [Value.cells, Kv.c_len]) ?_
        intro b1
        refine pull2 ?_
        refine l_e rfl ?_
        refine e_append rfl rfl rfl Try.underlying25 Try.underlying25 info24 rfl rfl rfl rfl rfl (fun _ h => lit_rd (h.at 1 rfl) (Kv.enc 8) [(ofM x).1] rfl rfl) (by simp only [byt24, List.length_append, List.length_cons, List.length_nil]; omega) (by simp only [List.length_append, List.length_cons, List.length_nil]; omega) ?_
        intro v2
        refine row_eq (hks.symm) ?_
        refine pull1 ?_
        refine drop0 ?_
        refine l_q rfl (q_assign rfl rfl) rfl rfl ?_
        refine l_nil ?_
        refine k_then ?_
        refine c_seq ?_
        refine c_any (fun w2 => (cellsE ba 24 (ofM x).1.c).at w2) rfl St.drawn ?_
        refine a_q (blind_then (blind_block (blind_then (blind_then (blind_block (blind_then blind_body)))))) 0 rfl (by kernel_rfl) (by kernel_rfl) (by kernel_rfl) (fun _ h => h.at 1 rfl) rfl (q_move rfl rfl) rfl rfl ?_
        refine a_q (blind_then (blind_block (blind_then (blind_then (blind_block (blind_then blind_body)))))) 1 rfl (by kernel_rfl) (by kernel_rfl) (by kernel_rfl) (fun _ h => h.at 1 rfl) rfl (q_loadCAgg ((ofM x).1.c) rfl Try.isAgg24 Try.sizeOf24 rfl (fun _ h => h) (kv_whole _) (Kv.c_len _)) rfl rfl ?_
        refine a_all2 2 4 (by kernel_rfl) rfl rfl rfl rfl ?_ ?_ 
        · refine e_lookup (l := cntM (kl (l.take i))) (kf := kfK) (vf := vI) (ofM x).1 rfl rfl rfl Try.underlying46 keyK Try.zeroValue3 rfl rfl (fun _ h => mapS_map (h.at 2 rfl)) ?_
          refine Pre.setV (t := 49) (c := .int .i64 ((mget (ofM x).1 (cntM (kl (l.take i)))).getD 0)) rfl (by cases mget (ofM x).1 (cntM (kl (l.take i))) <;> rfl) ?_
          refine d_held (fun _ h => h.at 1 rfl) ?_
          refine a_q (blind_then (blind_block (blind_then (blind_then (blind_block (blind_then blind_body)))))) 3 rfl (by kernel_rfl) (by kernel_rfl) (by kernel_rfl) (fun _ h => h.at 1 rfl) rfl (q_add rfl rfl rfl) rfl rfl ?_
          refine pull2 ?_
          refine a_all1 4 (by kernel_rfl) rfl rfl ?_
          refine e_entry (l := cntM (kl (l.take i))) (kf := kfK) (vf := vI) (ofM x).1 0 rfl rfl rfl Try.underlying46 keyK Try.zeroValue3 rfl rfl ?_
          refine d_held (fun _ h => h.at 2 rfl) ?_
          refine a_q (blind_then (blind_block (blind_then (blind_then (blind_block (blind_then blind_body)))))) 5 rfl (by kernel_rfl) (by kernel_rfl) (by kernel_rfl) (fun _ h => h.at 2 rfl) rfl (q_extract rfl rfl rfl) rfl rfl ?_
          refine a_all1 6 (by kernel_rfl) rfl rfl ?_
          refine e_entryStore (l := cntM (kl (l.take i))) (kf := kfK) (vf := vI) (ofM x).1 _ (IntKind.i64.wrap (((mget (ofM x).1 (cntM (kl (l.take i)))).getD 0) + 1)) rfl rfl rfl rfl rfl ?_
          refine d_held (fun _ h => h.at 2 rfl) ?_
          refine a_nil (by kernel_rfl) ?_
          refine k_then ?_
          refine c_seq ?_
          refine c_region _ rfl ?_
          refine l_q rfl (q_move rfl rfl) rfl rfl ?_
          refine l_q rfl (q_move rfl rfl) rfl rfl ?_
          refine l_q rfl (q_move rfl rfl) rfl rfl ?_
          refine l_q rfl (q_indexV i rfl Try.underlying44 Try.sizeOf9 rfl (fun _ h => hl.keep h (by simp [dom])) rfl rfl (by omega)) rfl rfl ?_
          refine l_q rfl (q_loadV i 0 rfl Try.isAgg9 rfl rfl (fun _ h => hl.keep h (by simp [dom])) hx rfl) rfl rfl ?_
          refine l_e rfl ?_
          refine e_lookup (l := cntM (l.take i)) (kf := Value.string) (vf := vI) x rfl rfl rfl Try.underlying47 (keyOk_str Try.underlying9) Try.zeroValue3 rfl rfl (fun _ h => h.at 3 rfl) ?_
          refine Pre.setV (t := 58) (c := .int .i64 ((mget x (cntM (l.take i))).getD 0)) rfl (by cases mget x (cntM (l.take i)) <;> rfl) ?_
          refine l_q rfl (q_add rfl rfl rfl) rfl rfl ?_
          refine pull3 ?_
          refine l_e rfl ?_
          refine e_put (a := x) (v := IntKind.i64.wrap (((mget x (cntM (l.take i))).getD 0) + 1)) rfl rfl Try.underlying47 (keyOk_str Try.underlying9) rfl rfl rfl ?_
          refine l_nil ?_
          refine k_then ?_
          refine c_seq ?_
          refine c_region _ rfl ?_
          refine l_q rfl (q_move rfl rfl) rfl rfl ?_
          refine l_q rfl (q_gtr rfl rfl rfl) rfl rfl ?_
          refine l_nil ?_
          refine k_then ?_
          have hcm : cntM (kl (l.take (i + 1))) = bump (cntM (kl (l.take i))) (ofM x).1 := by rw [hks]; exact cnt_snoc _ _
          have hct : cntM (l.take (i + 1)) = bump (cntM (l.take i)) x := by rw [htk]; exact cnt_snoc _ _
          refine Pre.caseB 61 rfl (fun h5 => ?_) (fun h5 => ?_)
          · try simp only [decide_eq_true_eq, decide_eq_false_iff_not, Bool.not_eq_true', Bool.not_eq_false'] at h5
            obtain ⟨j, rfl⟩ : ∃ j, i = j + 1 := ⟨i - 1, by omega⟩
            obtain ⟨y, hy⟩ : ∃ y, l[j]? = some y := ⟨_, List.getElem?_eq_getElem (by omega)⟩
            have hys : y.size ≤ 8 := hsh y (by rw [List.mem_take_iff_getElem]; obtain ⟨h6, h7⟩ := List.getElem?_eq_some_iff.1 hy; exact ⟨j, by omega, h7⟩)
            have hkj := kl_get (i := j + 1 + 1) hy (by omega)
            have had := adj_succ hy hx
            have hkl2 := kl_len (l.take (j + 1 + 1))
            have htl2 : (l.take (j + 1 + 1)).length = j + 1 + 1 := by rw [List.length_take]; omega
            refine c_true rfl ?_
            refine c_seq ?_
            refine c_any (fun w2 => RdV w2 v2 (Kv.enc 8) (kl (l.take (j + 1 + 1))) ∧ (cellsE ba 24 (ofM x).1.c).at w2) rfl St.drawn ?_
            refine a_q (blind_then (blind_block (blind_then (blind_then (blind_block (blind_then blind_body)))))) 0 rfl (by kernel_rfl) (by kernel_rfl) (by kernel_rfl) (fun _ h => ⟨h.rd 2 rfl, h.at 3 rfl⟩) rfl (q_move rfl rfl) rfl rfl ?_
            refine a_q (blind_then (blind_block (blind_then (blind_then (blind_block (blind_then blind_body)))))) 1 rfl (by kernel_rfl) (by kernel_rfl) (by kernel_rfl) (fun _ h => ⟨h.rd 2 rfl, h.at 3 rfl⟩) rfl (q_move rfl rfl) rfl rfl ?_
            refine a_q (blind_then (blind_block (blind_then (blind_then (blind_block (blind_then blind_body)))))) 2 rfl (by kernel_rfl) (by kernel_rfl) (by kernel_rfl) (fun _ h => ⟨h.rd 2 rfl, h.at 3 rfl⟩) rfl (q_move rfl rfl) rfl rfl ?_
            refine a_q (blind_then (blind_block (blind_then (blind_then (blind_block (blind_then blind_body)))))) 3 rfl (by kernel_rfl) (by kernel_rfl) (by kernel_rfl) (fun _ h => ⟨h.rd 2 rfl, h.at 3 rfl⟩) rfl (q_sub64 rfl rfl rfl (by omega)) rfl rfl ?_
            refine a_q (blind_then (blind_block (blind_then (blind_then (blind_block (blind_then blind_body)))))) 4 rfl (by kernel_rfl) (by kernel_rfl) (by kernel_rfl) (fun _ h => ⟨h.rd 2 rfl, h.at 3 rfl⟩) rfl (q_indexV j rfl Try.underlying25 Try.sizeOf24 rfl (fun _ h => h.1) rfl (by omega) (by omega)) rfl rfl ?_
            refine a_q (blind_then (blind_block (blind_then (blind_then (blind_block (blind_then blind_body)))))) 5 rfl (by kernel_rfl) (by kernel_rfl) (by kernel_rfl) (fun _ h => ⟨h.rd 2 rfl, h.at 3 rfl⟩) rfl (q_loadVAgg j rfl Try.isAgg24 Try.sizeOf24 rfl rfl (fun _ h => h.1) hkj) rfl rfl ?_
            refine a_q (blind_then (blind_block (blind_then (blind_then (blind_block (blind_then blind_body)))))) 6 rfl (by kernel_rfl) (by kernel_rfl) (by kernel_rfl) (fun _ h => ⟨h.rd 2 rfl, h.at 3 rfl⟩) rfl (q_loadCAgg ((ofM x).1.c) rfl Try.isAgg24 Try.sizeOf24 rfl (fun _ h => h.2) (kv_whole _) (Kv.c_len _)) rfl rfl ?_
            refine a_q (blind_then (blind_block (blind_then (blind_then (blind_block (blind_then blind_body)))))) 7 rfl (by kernel_rfl) (by kernel_rfl) (by kernel_rfl) (fun _ h => ⟨h.rd 2 rfl, h.at 3 rfl⟩) rfl (q_build ((encP.f ((ofM y).1, (ofM x).1))) rfl rfl (fun w => buildP _ _ w)) rfl rfl ?_
            refine a_all2 8 10 (by kernel_rfl) rfl rfl rfl rfl ?_ ?_ 
            · refine e_lookup (l := cntM ((adj l (j + 1)).map fP)) (kf := kfP) (vf := vI) ((ofM y).1, (ofM x).1) rfl rfl rfl Try.underlying48 keyP Try.zeroValue3 rfl rfl (fun _ h => mapS_map (h.at 4 rfl)) ?_
              refine Pre.setV (t := 70) (c := .int .i64 ((mget ((ofM y).1, (ofM x).1) (cntM ((adj l (j + 1)).map fP))).getD 0)) rfl (by cases mget ((ofM y).1, (ofM x).1) (cntM ((adj l (j + 1)).map fP)) <;> rfl) ?_
              refine d_held (fun _ h => ⟨h.rd 2 rfl, h.at 3 rfl⟩) ?_
              refine a_q (blind_then (blind_block (blind_then (blind_then (blind_block (blind_then blind_body)))))) 9 rfl (by kernel_rfl) (by kernel_rfl) (by kernel_rfl) (fun _ h => ⟨h.rd 2 rfl, h.at 3 rfl⟩) rfl (q_add rfl rfl rfl) rfl rfl ?_
              refine pull4 ?_
              refine a_all1 10 (by kernel_rfl) rfl rfl ?_
              refine e_entry (l := cntM ((adj l (j + 1)).map fP)) (kf := kfP) (vf := vI) ((ofM y).1, (ofM x).1) 0 rfl rfl rfl Try.underlying48 keyP Try.zeroValue3 rfl rfl ?_
              refine d_held (fun _ h => ⟨h.rd 3 rfl, h.at 4 rfl⟩) ?_
              refine a_q (blind_then (blind_block (blind_then (blind_then (blind_block (blind_then blind_body)))))) 11 rfl (by kernel_rfl) (by kernel_rfl) (by kernel_rfl) (fun _ h => ⟨h.rd 3 rfl, h.at 4 rfl⟩) rfl (q_extract rfl rfl rfl) rfl rfl ?_
              refine a_all1 12 (by kernel_rfl) rfl rfl ?_
              refine e_entryStore (l := cntM ((adj l (j + 1)).map fP)) (kf := kfP) (vf := vI) ((ofM y).1, (ofM x).1) _ (IntKind.i64.wrap (((mget ((ofM y).1, (ofM x).1) (cntM ((adj l (j + 1)).map fP))).getD 0) + 1)) rfl rfl rfl rfl rfl ?_
              refine d_held (fun _ h => ⟨h.rd 3 rfl, h.at 4 rfl⟩) ?_
              refine a_nil (by kernel_rfl) ?_
              refine k_then ?_
              refine c_draw [(0, some true), (1, some true), (2, some true), (3, some true), (4, some true), (5, some true), (6, some true), (7, some true), (10, some true), (11, some true), (12, some true), (13, some true), (14, some true), (16, some true), (17, some true), (18, some true), (19, some true), (8, some false), (9, some false), (15, some true), (20, some true), (21, some false), (22, some true), (23, none)] [23] [(_, some true), (_, some true), (_, some true), (_, some true), (_, some true), (_, some true), (_, some true), (_, some true), (_, some true), (_, some true), (_, some true), (_, some true), (_, some true), (_, some true), (_, some true), (_, some true), (_, some true), (_, some false), (_, some false), (_, some true), (_, some true), (_, some false), (_, some true), (_, none)] (fun w2 => RdV w2 va encS l) (blind_block (blind_then (blind_then (blind_block (blind_then blind_body))))) rfl (by kernel_rfl) (by kernel_rfl) rfl rfl rfl (by kernel_rfl) St.drawn (fun _ h => hl.keep h (by simp [dom])) ?_
              refine d_q rfl (q_move rfl rfl) rfl rfl ?_
              refine d_q rfl (q_move rfl rfl) rfl rfl ?_
              refine d_q rfl (q_move rfl rfl) rfl rfl ?_
              refine d_q rfl (q_sub64 rfl rfl rfl (by omega)) rfl rfl ?_
              refine d_q rfl (q_indexV j rfl Try.underlying44 Try.sizeOf9 rfl (fun _ h => h) rfl (by omega) (by omega)) rfl rfl ?_
              refine d_q rfl (q_loadV j 0 rfl Try.isAgg9 rfl rfl (fun _ h => h) hy rfl) rfl rfl ?_
              refine d_q rfl (q_lenS rfl Try.underlying9 rfl) rfl rfl ?_
              refine d_q rfl (q_conv_in rfl Try.underlying3 Try.underlying5 rfl (wrapu8_in (by omega))) rfl rfl ?_
              refine d_q rfl (q_move rfl rfl) rfl rfl ?_
              refine d_q rfl (q_move rfl rfl) rfl rfl ?_
              refine d_q rfl (q_sub64 rfl rfl rfl (by omega)) rfl rfl ?_
              refine d_q rfl (q_indexV j rfl Try.underlying44 Try.sizeOf9 rfl (fun _ h => h) rfl (by omega) (by omega)) rfl rfl ?_
              refine d_q rfl (q_loadV j 0 rfl Try.isAgg9 rfl rfl (fun _ h => h) hy rfl) rfl rfl ?_
              refine d_q rfl (q_move rfl rfl) rfl rfl ?_
              refine d_q rfl (q_move rfl rfl) rfl rfl ?_
              refine d_q rfl (q_indexV (j + 1) rfl Try.underlying44 Try.sizeOf9 rfl (fun _ h => h) rfl rfl (by omega)) rfl rfl ?_
              refine d_q rfl (q_loadV (j + 1) 0 rfl Try.isAgg9 rfl rfl (fun _ h => h) hx rfl) rfl rfl ?_
              refine d_e rfl ?_
              refine e_buildSliceV (sz := 1) [.tmp 81] rfl rfl rfl rfl rfl Try.underlying51 Try.sizeOf5 rfl Try.zeroValue5 rfl ?_
              intro b3
              refine d_held (fun _ h => hl.keep h (by simp [dom])) ?_
              refine d_e rfl ?_
              refine e_q rfl rfl (q_b2s (l := [(y.size : Int)]) rfl Try.underlying51 Try.underlying5 Try.underlying9 rfl (fun _ h => lit_rd (h.at 0 rfl) (Sep.encI IntKind.u8) [(y.size : Int)] rfl rfl)) ?_
              refine d_held (fun _ h => hl.keep h (by simp [dom])) ?_
              refine d_q rfl (q_addS rfl rfl rfl (by show 1 + _ ≤ _; omega)) rfl rfl ?_
              refine d_q rfl (q_addS rfl rfl rfl (by rw [ByteArray.size_append]; show 1 + _ + _ ≤ _; omega)) rfl rfl ?_
              refine d_e rfl ?_
              refine e_lookup (l := cntM ((adj l (j + 1)).map fB)) (kf := Value.string) (vf := vI) (fB (y, x)) rfl rfl rfl Try.underlying47 (keyOk_str Try.underlying9) Try.zeroValue3 rfl rfl (fun _ h => h.at 6 rfl) ?_
              refine Pre.setV (t := 95) (c := .int .i64 ((mget (fB (y, x)) (cntM ((adj l (j + 1)).map fB))).getD 0)) rfl (by cases mget (fB (y, x)) (cntM ((adj l (j + 1)).map fB)) <;> rfl) ?_
              refine d_held (fun _ h => hl.keep h (by simp [dom])) ?_
              refine d_q rfl (q_add rfl rfl rfl) rfl rfl ?_
              refine pull6 ?_
              refine d_t rfl ?_
              refine e_put (a := (fB (y, x))) (v := IntKind.i64.wrap (((mget (fB (y, x)) (cntM ((adj l (j + 1)).map fB))).getD 0) + 1)) rfl rfl Try.underlying47 (keyOk_str Try.underlying9) rfl rfl rfl ?_
              refine d_nil ?_
              refine k_block ?_
              refine k_then ?_
              refine c_region _ rfl ?_
              refine l_q rfl (q_move rfl rfl) rfl rfl ?_
              refine l_q rfl (q_inc rfl rfl rfl (by omega)) rfl rfl ?_
              refine l_q rfl (q_assign rfl rfl) rfl rfl ?_
              refine l_nil ?_
              have hcp : cntM ((adj l (j + 1 + 1)).map fP) = bump (cntM ((adj l (j + 1)).map fP)) ((ofM y).1, (ofM x).1) := by rw [had, List.map_append]; exact cnt_snoc _ _
              have hcb : cntM ((adj l (j + 1 + 1)).map fB) = bump (cntM ((adj l (j + 1)).map fB)) (fB (y, x)) := by rw [had, List.map_append]; exact cnt_snoc _ _
              refine pull6 ?_
              refine drop0 ?_
              refine pull1 ?_
              refine drop0 ?_
              refine pull1 ?_
              refine pull2 ?_
              refine pull3 ?_
              refine pull4 ?_
              exact k_round ((j + 1 + 1, v2)) (by dsimp only; omega) ⟨by dsimp only; omega, hsh2⟩ (Sub.cons rfl (Sub.cons rfl (Sub.cons rfl (Sub.cons rfl (Sub.cons rfl (Sub.cons rfl (Sub.cons rfl (Sub.nil)))))))) (fun _ h => by dsimp only; rw [hcm, hct, hcp, hcb]; exact h)
            · refine pull4 ?_
              refine e_entry (l := cntM ((adj l (j + 1)).map fP)) (kf := kfP) (vf := vI) ((ofM y).1, (ofM x).1) 0 rfl rfl rfl Try.underlying48 keyP Try.zeroValue3 rfl rfl ?_
              refine d_held (fun _ h => ⟨h.rd 3 rfl, h.at 4 rfl⟩) ?_
              refine a_q (blind_then (blind_block (blind_then (blind_then (blind_block (blind_then blind_body)))))) 11 rfl (by kernel_rfl) (by kernel_rfl) (by kernel_rfl) (fun _ h => ⟨h.rd 3 rfl, h.at 4 rfl⟩) rfl (q_extract rfl rfl rfl) rfl rfl ?_
              refine a_all1 8 (by kernel_rfl) rfl rfl ?_
              refine e_lookup (l := mput ((ofM y).1, (ofM x).1) ((mget ((ofM y).1, (ofM x).1) (cntM ((adj l (j + 1)).map fP))).getD 0) (cntM ((adj l (j + 1)).map fP))) (kf := kfP) (vf := vI) ((ofM y).1, (ofM x).1) rfl rfl rfl Try.underlying48 keyP Try.zeroValue3 rfl rfl (fun _ h => mapS_map (h.at 0 rfl)) ?_
              refine Pre.setV (t := 70) (c := .int .i64 ((mget ((ofM y).1, (ofM x).1) (cntM ((adj l (j + 1)).map fP))).getD 0)) rfl (by rw [mget_put]) ?_
              refine d_held (fun _ h => ⟨h.rd 3 rfl, h.at 4 rfl⟩) ?_
              refine a_q (blind_then (blind_block (blind_then (blind_then (blind_block (blind_then blind_body)))))) 9 rfl (by kernel_rfl) (by kernel_rfl) (by kernel_rfl) (fun _ h => ⟨h.rd 3 rfl, h.at 4 rfl⟩) rfl (q_add rfl rfl rfl) rfl rfl ?_
              refine a_all1 12 (by kernel_rfl) rfl rfl ?_
              refine e_entryStore (l := cntM ((adj l (j + 1)).map fP)) (kf := kfP) (vf := vI) ((ofM y).1, (ofM x).1) _ (IntKind.i64.wrap (((mget ((ofM y).1, (ofM x).1) (cntM ((adj l (j + 1)).map fP))).getD 0) + 1)) rfl rfl rfl rfl rfl ?_
              refine d_held (fun _ h => ⟨h.rd 3 rfl, h.at 4 rfl⟩) ?_
              refine a_nil (by kernel_rfl) ?_
              refine k_then ?_
              refine c_draw [(0, some true), (1, some true), (2, some true), (3, some true), (4, some true), (5, some true), (6, some true), (7, some true), (10, some true), (11, some true), (12, some true), (13, some true), (14, some true), (16, some true), (17, some true), (18, some true), (19, some true), (8, some false), (9, some false), (15, some true), (20, some true), (21, some false), (22, some true), (23, none)] [23] [(_, some true), (_, some true), (_, some true), (_, some true), (_, some true), (_, some true), (_, some true), (_, some true), (_, some true), (_, some true), (_, some true), (_, some true), (_, some true), (_, some true), (_, some true), (_, some true), (_, some true), (_, some false), (_, some false), (_, some true), (_, some true), (_, some false), (_, some true), (_, none)] (fun w2 => RdV w2 va encS l) (blind_block (blind_then (blind_then (blind_block (blind_then blind_body))))) rfl (by kernel_rfl) (by kernel_rfl) rfl rfl rfl (by kernel_rfl) St.drawn (fun _ h => hl.keep h (by simp [dom])) ?_
              refine d_q rfl (q_move rfl rfl) rfl rfl ?_
              refine d_q rfl (q_move rfl rfl) rfl rfl ?_
              refine d_q rfl (q_move rfl rfl) rfl rfl ?_
              refine d_q rfl (q_sub64 rfl rfl rfl (by omega)) rfl rfl ?_
              refine d_q rfl (q_indexV j rfl Try.underlying44 Try.sizeOf9 rfl (fun _ h => h) rfl (by omega) (by omega)) rfl rfl ?_
              refine d_q rfl (q_loadV j 0 rfl Try.isAgg9 rfl rfl (fun _ h => h) hy rfl) rfl rfl ?_
              refine d_q rfl (q_lenS rfl Try.underlying9 rfl) rfl rfl ?_
              refine d_q rfl (q_conv_in rfl Try.underlying3 Try.underlying5 rfl (wrapu8_in (by omega))) rfl rfl ?_
              refine d_q rfl (q_move rfl rfl) rfl rfl ?_
              refine d_q rfl (q_move rfl rfl) rfl rfl ?_
              refine d_q rfl (q_sub64 rfl rfl rfl (by omega)) rfl rfl ?_
              refine d_q rfl (q_indexV j rfl Try.underlying44 Try.sizeOf9 rfl (fun _ h => h) rfl (by omega) (by omega)) rfl rfl ?_
              refine d_q rfl (q_loadV j 0 rfl Try.isAgg9 rfl rfl (fun _ h => h) hy rfl) rfl rfl ?_
              refine d_q rfl (q_move rfl rfl) rfl rfl ?_
              refine d_q rfl (q_move rfl rfl) rfl rfl ?_
              refine d_q rfl (q_indexV (j + 1) rfl Try.underlying44 Try.sizeOf9 rfl (fun _ h => h) rfl rfl (by omega)) rfl rfl ?_
              refine d_q rfl (q_loadV (j + 1) 0 rfl Try.isAgg9 rfl rfl (fun _ h => h) hx rfl) rfl rfl ?_
              refine d_e rfl ?_
              refine e_buildSliceV (sz := 1) [.tmp 81] rfl rfl rfl rfl rfl Try.underlying51 Try.sizeOf5 rfl Try.zeroValue5 rfl ?_
              intro b5
              refine d_held (fun _ h => hl.keep h (by simp [dom])) ?_
              refine d_e rfl ?_
              refine e_q rfl rfl (q_b2s (l := [(y.size : Int)]) rfl Try.underlying51 Try.underlying5 Try.underlying9 rfl (fun _ h => lit_rd (h.at 0 rfl) (Sep.encI IntKind.u8) [(y.size : Int)] rfl rfl)) ?_
              refine d_held (fun _ h => hl.keep h (by simp [dom])) ?_
              refine d_q rfl (q_addS rfl rfl rfl (by show 1 + _ ≤ _; omega)) rfl rfl ?_
              refine d_q rfl (q_addS rfl rfl rfl (by rw [ByteArray.size_append]; show 1 + _ + _ ≤ _; omega)) rfl rfl ?_
              refine d_e rfl ?_
              refine e_lookup (l := cntM ((adj l (j + 1)).map fB)) (kf := Value.string) (vf := vI) (fB (y, x)) rfl rfl rfl Try.underlying47 (keyOk_str Try.underlying9) Try.zeroValue3 rfl rfl (fun _ h => h.at 6 rfl) ?_
              refine Pre.setV (t := 95) (c := .int .i64 ((mget (fB (y, x)) (cntM ((adj l (j + 1)).map fB))).getD 0)) rfl (by cases mget (fB (y, x)) (cntM ((adj l (j + 1)).map fB)) <;> rfl) ?_
              refine d_held (fun _ h => hl.keep h (by simp [dom])) ?_
              refine d_q rfl (q_add rfl rfl rfl) rfl rfl ?_
              refine pull6 ?_
              refine d_t rfl ?_
              refine e_put (a := (fB (y, x))) (v := IntKind.i64.wrap (((mget (fB (y, x)) (cntM ((adj l (j + 1)).map fB))).getD 0) + 1)) rfl rfl Try.underlying47 (keyOk_str Try.underlying9) rfl rfl rfl ?_
              refine d_nil ?_
              refine k_block ?_
              refine k_then ?_
              refine c_region _ rfl ?_
              refine l_q rfl (q_move rfl rfl) rfl rfl ?_
              refine l_q rfl (q_inc rfl rfl rfl (by omega)) rfl rfl ?_
              refine l_q rfl (q_assign rfl rfl) rfl rfl ?_
              refine l_nil ?_
              have hcp : cntM ((adj l (j + 1 + 1)).map fP) = bump (cntM ((adj l (j + 1)).map fP)) ((ofM y).1, (ofM x).1) := by rw [had, List.map_append]; exact cnt_snoc _ _
              have hcb : cntM ((adj l (j + 1 + 1)).map fB) = bump (cntM ((adj l (j + 1)).map fB)) (fB (y, x)) := by rw [had, List.map_append]; exact cnt_snoc _ _
              refine pull6 ?_
              refine drop0 ?_
              refine pull1 ?_
              refine drop0 ?_
              refine pull1 ?_
              refine pull2 ?_
              refine pull3 ?_
              refine pull4 ?_
              exact k_round ((j + 1 + 1, v2)) (by dsimp only; omega) ⟨by dsimp only; omega, hsh2⟩ (Sub.cons rfl (Sub.cons rfl (Sub.cons rfl (Sub.cons rfl (Sub.cons rfl (Sub.cons rfl (Sub.cons rfl (Sub.nil)))))))) (fun _ h => by dsimp only; rw [hcm, hct, hcp, hcb]; exact h)
          · try simp only [decide_eq_true_eq, decide_eq_false_iff_not, Bool.not_eq_true', Bool.not_eq_false'] at h5
            have hi0 : i = 0 := by omega
            subst hi0
            refine c_false rfl ?_
            refine c_skip ?_
            refine k_block ?_
            refine k_then ?_
            refine c_region _ rfl ?_
            refine l_q rfl (q_move rfl rfl) rfl rfl ?_
            refine l_q rfl (q_inc rfl rfl rfl (by omega)) rfl rfl ?_
            refine l_q rfl (q_assign rfl rfl) rfl rfl ?_
            refine l_nil ?_
            refine pull3 ?_
            refine drop0 ?_
            refine pull4 ?_
            refine pull4 ?_
            refine pull2 ?_
            refine pull3 ?_
            refine pull4 ?_
            exact k_round ((0 + 1, v2)) (by dsimp only; omega) ⟨by dsimp only; omega, hsh2⟩ (Sub.cons rfl (Sub.cons rfl (Sub.cons rfl (Sub.cons rfl (Sub.cons rfl (Sub.cons rfl (Sub.cons rfl (Sub.nil)))))))) (fun _ h => by dsimp only; rw [hcm, hct]; exact h)
        · refine pull2 ?_
          refine e_entry (l := cntM (kl (l.take i))) (kf := kfK) (vf := vI) (ofM x).1 0 rfl rfl rfl Try.underlying46 keyK Try.zeroValue3 rfl rfl ?_
          refine d_held (fun _ h => h.at 2 rfl) ?_
          refine a_q (blind_then (blind_block (blind_then (blind_then (blind_block (blind_then blind_body)))))) 5 rfl (by kernel_rfl) (by kernel_rfl) (by kernel_rfl) (fun _ h => h.at 2 rfl) rfl (q_extract rfl rfl rfl) rfl rfl ?_
          refine a_all1 2 (by kernel_rfl) rfl rfl ?_
          refine e_lookup (l := mput (ofM x).1 ((mget (ofM x).1 (cntM (kl (l.take i)))).getD 0) (cntM (kl (l.take i)))) (kf := kfK) (vf := vI) (ofM x).1 rfl rfl rfl Try.underlying46 keyK Try.zeroValue3 rfl rfl (fun _ h => mapS_map (h.at 0 rfl)) ?_
          refine Pre.setV (t := 49) (c := .int .i64 ((mget (ofM x).1 (cntM (kl (l.take i)))).getD 0)) rfl (by rw [mget_put]) ?_
          refine d_held (fun _ h => h.at 2 rfl) ?_
          refine a_q (blind_then (blind_block (blind_then (blind_then (blind_block (blind_then blind_body)))))) 3 rfl (by kernel_rfl) (by kernel_rfl) (by kernel_rfl) (fun _ h => h.at 2 rfl) rfl (q_add rfl rfl rfl) rfl rfl ?_
          refine a_all1 6 (by kernel_rfl) rfl rfl ?_
          refine e_entryStore (l := cntM (kl (l.take i))) (kf := kfK) (vf := vI) (ofM x).1 _ (IntKind.i64.wrap (((mget (ofM x).1 (cntM (kl (l.take i)))).getD 0) + 1)) rfl rfl rfl rfl rfl ?_
          refine d_held (fun _ h => h.at 2 rfl) ?_
          refine a_nil (by kernel_rfl) ?_
          refine k_then ?_
          refine c_seq ?_
          refine c_region _ rfl ?_
          refine l_q rfl (q_move rfl rfl) rfl rfl ?_
          refine l_q rfl (q_move rfl rfl) rfl rfl ?_
          refine l_q rfl (q_move rfl rfl) rfl rfl ?_
          refine l_q rfl (q_indexV i rfl Try.underlying44 Try.sizeOf9 rfl (fun _ h => hl.keep h (by simp [dom])) rfl rfl (by omega)) rfl rfl ?_
          refine l_q rfl (q_loadV i 0 rfl Try.isAgg9 rfl rfl (fun _ h => hl.keep h (by simp [dom])) hx rfl) rfl rfl ?_
          refine l_e rfl ?_
          refine e_lookup (l := cntM (l.take i)) (kf := Value.string) (vf := vI) x rfl rfl rfl Try.underlying47 (keyOk_str Try.underlying9) Try.zeroValue3 rfl rfl (fun _ h => h.at 3 rfl) ?_
          refine Pre.setV (t := 58) (c := .int .i64 ((mget x (cntM (l.take i))).getD 0)) rfl (by cases mget x (cntM (l.take i)) <;> rfl) ?_
          refine l_q rfl (q_add rfl rfl rfl) rfl rfl ?_
          refine pull3 ?_
          refine l_e rfl ?_
          refine e_put (a := x) (v := IntKind.i64.wrap (((mget x (cntM (l.take i))).getD 0) + 1)) rfl rfl Try.underlying47 (keyOk_str Try.underlying9) rfl rfl rfl ?_
          refine l_nil ?_
          refine k_then ?_
          refine c_seq ?_
          refine c_region _ rfl ?_
          refine l_q rfl (q_move rfl rfl) rfl rfl ?_
          refine l_q rfl (q_gtr rfl rfl rfl) rfl rfl ?_
          refine l_nil ?_
          refine k_then ?_
          have hcm : cntM (kl (l.take (i + 1))) = bump (cntM (kl (l.take i))) (ofM x).1 := by rw [hks]; exact cnt_snoc _ _
          have hct : cntM (l.take (i + 1)) = bump (cntM (l.take i)) x := by rw [htk]; exact cnt_snoc _ _
          refine Pre.caseB 61 rfl (fun h5 => ?_) (fun h5 => ?_)
          · try simp only [decide_eq_true_eq, decide_eq_false_iff_not, Bool.not_eq_true', Bool.not_eq_false'] at h5
            obtain ⟨j, rfl⟩ : ∃ j, i = j + 1 := ⟨i - 1, by omega⟩
            obtain ⟨y, hy⟩ : ∃ y, l[j]? = some y := ⟨_, List.getElem?_eq_getElem (by omega)⟩
            have hys : y.size ≤ 8 := hsh y (by rw [List.mem_take_iff_getElem]; obtain ⟨h6, h7⟩ := List.getElem?_eq_some_iff.1 hy; exact ⟨j, by omega, h7⟩)
            have hkj := kl_get (i := j + 1 + 1) hy (by omega)
            have had := adj_succ hy hx
            have hkl2 := kl_len (l.take (j + 1 + 1))
            have htl2 : (l.take (j + 1 + 1)).length = j + 1 + 1 := by rw [List.length_take]; omega
            refine c_true rfl ?_
            refine c_seq ?_
            refine c_any (fun w2 => RdV w2 v2 (Kv.enc 8) (kl (l.take (j + 1 + 1))) ∧ (cellsE ba 24 (ofM x).1.c).at w2) rfl St.drawn ?_
            refine a_q (blind_then (blind_block (blind_then (blind_then (blind_block (blind_then blind_body)))))) 0 rfl (by kernel_rfl) (by kernel_rfl) (by kernel_rfl) (fun _ h => ⟨h.rd 2 rfl, h.at 3 rfl⟩) rfl (q_move rfl rfl) rfl rfl ?_
            refine a_q (blind_then (blind_block (blind_then (blind_then (blind_block (blind_then blind_body)))))) 1 rfl (by kernel_rfl) (by kernel_rfl) (by kernel_rfl) (fun _ h => ⟨h.rd 2 rfl, h.at 3 rfl⟩) rfl (q_move rfl rfl) rfl rfl ?_
            refine a_q (blind_then (blind_block (blind_then (blind_then (blind_block (blind_then blind_body)))))) 2 rfl (by kernel_rfl) (by kernel_rfl) (by kernel_rfl) (fun _ h => ⟨h.rd 2 rfl, h.at 3 rfl⟩) rfl (q_move rfl rfl) rfl rfl ?_
            refine a_q (blind_then (blind_block (blind_then (blind_then (blind_block (blind_then blind_body)))))) 3 rfl (by kernel_rfl) (by kernel_rfl) (by kernel_rfl) (fun _ h => ⟨h.rd 2 rfl, h.at 3 rfl⟩) rfl (q_sub64 rfl rfl rfl (by omega)) rfl rfl ?_
            refine a_q (blind_then (blind_block (blind_then (blind_then (blind_block (blind_then blind_body)))))) 4 rfl (by kernel_rfl) (by kernel_rfl) (by kernel_rfl) (fun _ h => ⟨h.rd 2 rfl, h.at 3 rfl⟩) rfl (q_indexV j rfl Try.underlying25 Try.sizeOf24 rfl (fun _ h => h.1) rfl (by omega) (by omega)) rfl rfl ?_
            refine a_q (blind_then (blind_block (blind_then (blind_then (blind_block (blind_then blind_body)))))) 5 rfl (by kernel_rfl) (by kernel_rfl) (by kernel_rfl) (fun _ h => ⟨h.rd 2 rfl, h.at 3 rfl⟩) rfl (q_loadVAgg j rfl Try.isAgg24 Try.sizeOf24 rfl rfl (fun _ h => h.1) hkj) rfl rfl ?_
            refine a_q (blind_then (blind_block (blind_then (blind_then (blind_block (blind_then blind_body)))))) 6 rfl (by kernel_rfl) (by kernel_rfl) (by kernel_rfl) (fun _ h => ⟨h.rd 2 rfl, h.at 3 rfl⟩) rfl (q_loadCAgg ((ofM x).1.c) rfl Try.isAgg24 Try.sizeOf24 rfl (fun _ h => h.2) (kv_whole _) (Kv.c_len _)) rfl rfl ?_
            refine a_q (blind_then (blind_block (blind_then (blind_then (blind_block (blind_then blind_body)))))) 7 rfl (by kernel_rfl) (by kernel_rfl) (by kernel_rfl) (fun _ h => ⟨h.rd 2 rfl, h.at 3 rfl⟩) rfl (q_build ((encP.f ((ofM y).1, (ofM x).1))) rfl rfl (fun w => buildP _ _ w)) rfl rfl ?_
            refine a_all2 8 10 (by kernel_rfl) rfl rfl rfl rfl ?_ ?_ 
            · refine e_lookup (l := cntM ((adj l (j + 1)).map fP)) (kf := kfP) (vf := vI) ((ofM y).1, (ofM x).1) rfl rfl rfl Try.underlying48 keyP Try.zeroValue3 rfl rfl (fun _ h => mapS_map (h.at 4 rfl)) ?_
              refine Pre.setV (t := 70) (c := .int .i64 ((mget ((ofM y).1, (ofM x).1) (cntM ((adj l (j + 1)).map fP))).getD 0)) rfl (by cases mget ((ofM y).1, (ofM x).1) (cntM ((adj l (j + 1)).map fP)) <;> rfl) ?_
              refine d_held (fun _ h => ⟨h.rd 2 rfl, h.at 3 rfl⟩) ?_
              refine a_q (blind_then (blind_block (blind_then (blind_then (blind_block (blind_then blind_body)))))) 9 rfl (by kernel_rfl) (by kernel_rfl) (by kernel_rfl) (fun _ h => ⟨h.rd 2 rfl, h.at 3 rfl⟩) rfl (q_add rfl rfl rfl) rfl rfl ?_
              refine pull4 ?_
              refine a_all1 10 (by kernel_rfl) rfl rfl ?_
              refine e_entry (l := cntM ((adj l (j + 1)).map fP)) (kf := kfP) (vf := vI) ((ofM y).1, (ofM x).1) 0 rfl rfl rfl Try.underlying48 keyP Try.zeroValue3 rfl rfl ?_
              refine d_held (fun _ h => ⟨h.rd 3 rfl, h.at 4 rfl⟩) ?_
              refine a_q (blind_then (blind_block (blind_then (blind_then (blind_block (blind_then blind_body)))))) 11 rfl (by kernel_rfl) (by kernel_rfl) (by kernel_rfl) (fun _ h => ⟨h.rd 3 rfl, h.at 4 rfl⟩) rfl (q_extract rfl rfl rfl) rfl rfl ?_
              refine a_all1 12 (by kernel_rfl) rfl rfl ?_
              refine e_entryStore (l := cntM ((adj l (j + 1)).map fP)) (kf := kfP) (vf := vI) ((ofM y).1, (ofM x).1) _ (IntKind.i64.wrap (((mget ((ofM y).1, (ofM x).1) (cntM ((adj l (j + 1)).map fP))).getD 0) + 1)) rfl rfl rfl rfl rfl ?_
              refine d_held (fun _ h => ⟨h.rd 3 rfl, h.at 4 rfl⟩) ?_
              refine a_nil (by kernel_rfl) ?_
              refine k_then ?_
              refine c_draw [(0, some true), (1, some true), (2, some true), (3, some true), (4, some true), (5, some true), (6, some true), (7, some true), (10, some true), (11, some true), (12, some true), (13, some true), (14, some true), (16, some true), (17, some true), (18, some true), (19, some true), (8, some false), (9, some false), (15, some true), (20, some true), (21, some false), (22, some true), (23, none)] [23] [(_, some true), (_, some true), (_, some true), (_, some true), (_, some true), (_, some true), (_, some true), (_, some true), (_, some true), (_, some true), (_, some true), (_, some true), (_, some true), (_, some true), (_, some true), (_, some true), (_, some true), (_, some false), (_, some false), (_, some true), (_, some true), (_, some false), (_, some true), (_, none)] (fun w2 => RdV w2 va encS l) (blind_block (blind_then (blind_then (blind_block (blind_then blind_body))))) rfl (by kernel_rfl) (by kernel_rfl) rfl rfl rfl (by kernel_rfl) St.drawn (fun _ h => hl.keep h (by simp [dom])) ?_
              refine d_q rfl (q_move rfl rfl) rfl rfl ?_
              refine d_q rfl (q_move rfl rfl) rfl rfl ?_
              refine d_q rfl (q_move rfl rfl) rfl rfl ?_
              refine d_q rfl (q_sub64 rfl rfl rfl (by omega)) rfl rfl ?_
              refine d_q rfl (q_indexV j rfl Try.underlying44 Try.sizeOf9 rfl (fun _ h => h) rfl (by omega) (by omega)) rfl rfl ?_
              refine d_q rfl (q_loadV j 0 rfl Try.isAgg9 rfl rfl (fun _ h => h) hy rfl) rfl rfl ?_
              refine d_q rfl (q_lenS rfl Try.underlying9 rfl) rfl rfl ?_
              refine d_q rfl (q_conv_in rfl Try.underlying3 Try.underlying5 rfl (wrapu8_in (by omega))) rfl rfl ?_
              refine d_q rfl (q_move rfl rfl) rfl rfl ?_
              refine d_q rfl (q_move rfl rfl) rfl rfl ?_
              refine d_q rfl (q_sub64 rfl rfl rfl (by omega)) rfl rfl ?_
              refine d_q rfl (q_indexV j rfl Try.underlying44 Try.sizeOf9 rfl (fun _ h => h) rfl (by omega) (by omega)) rfl rfl ?_
              refine d_q rfl (q_loadV j 0 rfl Try.isAgg9 rfl rfl (fun _ h => h) hy rfl) rfl rfl ?_
              refine d_q rfl (q_move rfl rfl) rfl rfl ?_
              refine d_q rfl (q_move rfl rfl) rfl rfl ?_
              refine d_q rfl (q_indexV (j + 1) rfl Try.underlying44 Try.sizeOf9 rfl (fun _ h => h) rfl rfl (by omega)) rfl rfl ?_
              refine d_q rfl (q_loadV (j + 1) 0 rfl Try.isAgg9 rfl rfl (fun _ h => h) hx rfl) rfl rfl ?_
              refine d_e rfl ?_
              refine e_buildSliceV (sz := 1) [.tmp 81] rfl rfl rfl rfl rfl Try.underlying51 Try.sizeOf5 rfl Try.zeroValue5 rfl ?_
              intro b7
              refine d_held (fun _ h => hl.keep h (by simp [dom])) ?_
              refine d_e rfl ?_
              refine e_q rfl rfl (q_b2s (l := [(y.size : Int)]) rfl Try.underlying51 Try.underlying5 Try.underlying9 rfl (fun _ h => lit_rd (h.at 0 rfl) (Sep.encI IntKind.u8) [(y.size : Int)] rfl rfl)) ?_
              refine d_held (fun _ h => hl.keep h (by simp [dom])) ?_
              refine d_q rfl (q_addS rfl rfl rfl (by show 1 + _ ≤ _; omega)) rfl rfl ?_
              refine d_q rfl (q_addS rfl rfl rfl (by rw [ByteArray.size_append]; show 1 + _ + _ ≤ _; omega)) rfl rfl ?_
              refine d_e rfl ?_
              refine e_lookup (l := cntM ((adj l (j + 1)).map fB)) (kf := Value.string) (vf := vI) (fB (y, x)) rfl rfl rfl Try.underlying47 (keyOk_str Try.underlying9) Try.zeroValue3 rfl rfl (fun _ h => h.at 6 rfl) ?_
              refine Pre.setV (t := 95) (c := .int .i64 ((mget (fB (y, x)) (cntM ((adj l (j + 1)).map fB))).getD 0)) rfl (by cases mget (fB (y, x)) (cntM ((adj l (j + 1)).map fB)) <;> rfl) ?_
              refine d_held (fun _ h => hl.keep h (by simp [dom])) ?_
              refine d_q rfl (q_add rfl rfl rfl) rfl rfl ?_
              refine pull6 ?_
              refine d_t rfl ?_
              refine e_put (a := (fB (y, x))) (v := IntKind.i64.wrap (((mget (fB (y, x)) (cntM ((adj l (j + 1)).map fB))).getD 0) + 1)) rfl rfl Try.underlying47 (keyOk_str Try.underlying9) rfl rfl rfl ?_
              refine d_nil ?_
              refine k_block ?_
              refine k_then ?_
              refine c_region _ rfl ?_
              refine l_q rfl (q_move rfl rfl) rfl rfl ?_
              refine l_q rfl (q_inc rfl rfl rfl (by omega)) rfl rfl ?_
              refine l_q rfl (q_assign rfl rfl) rfl rfl ?_
              refine l_nil ?_
              have hcp : cntM ((adj l (j + 1 + 1)).map fP) = bump (cntM ((adj l (j + 1)).map fP)) ((ofM y).1, (ofM x).1) := by rw [had, List.map_append]; exact cnt_snoc _ _
              have hcb : cntM ((adj l (j + 1 + 1)).map fB) = bump (cntM ((adj l (j + 1)).map fB)) (fB (y, x)) := by rw [had, List.map_append]; exact cnt_snoc _ _
              refine pull6 ?_
              refine drop0 ?_
              refine pull1 ?_
              refine drop0 ?_
              refine pull1 ?_
              refine pull2 ?_
              refine pull3 ?_
              refine pull4 ?_
              exact k_round ((j + 1 + 1, v2)) (by dsimp only; omega) ⟨by dsimp only; omega, hsh2⟩ (Sub.cons rfl (Sub.cons rfl (Sub.cons rfl (Sub.cons rfl (Sub.cons rfl (Sub.cons rfl (Sub.cons rfl (Sub.nil)))))))) (fun _ h => by dsimp only; rw [hcm, hct, hcp, hcb]; exact h)
            · refine pull4 ?_
              refine e_entry (l := cntM ((adj l (j + 1)).map fP)) (kf := kfP) (vf := vI) ((ofM y).1, (ofM x).1) 0 rfl rfl rfl Try.underlying48 keyP Try.zeroValue3 rfl rfl ?_
              refine d_held (fun _ h => ⟨h.rd 3 rfl, h.at 4 rfl⟩) ?_
              refine a_q (blind_then (blind_block (blind_then (blind_then (blind_block (blind_then blind_body)))))) 11 rfl (by kernel_rfl) (by kernel_rfl) (by kernel_rfl) (fun _ h => ⟨h.rd 3 rfl, h.at 4 rfl⟩) rfl (q_extract rfl rfl rfl) rfl rfl ?_
              refine a_all1 8 (by kernel_rfl) rfl rfl ?_
              refine e_lookup (l := mput ((ofM y).1, (ofM x).1) ((mget ((ofM y).1, (ofM x).1) (cntM ((adj l (j + 1)).map fP))).getD 0) (cntM ((adj l (j + 1)).map fP))) (kf := kfP) (vf := vI) ((ofM y).1, (ofM x).1) rfl rfl rfl Try.underlying48 keyP Try.zeroValue3 rfl rfl (fun _ h => mapS_map (h.at 0 rfl)) ?_
              refine Pre.setV (t := 70) (c := .int .i64 ((mget ((ofM y).1, (ofM x).1) (cntM ((adj l (j + 1)).map fP))).getD 0)) rfl (by rw [mget_put]) ?_
              refine d_held (fun _ h => ⟨h.rd 3 rfl, h.at 4 rfl⟩) ?_
              refine a_q (blind_then (blind_block (blind_then (blind_then (blind_block (blind_then blind_body)))))) 9 rfl (by kernel_rfl) (by kernel_rfl) (by kernel_rfl) (fun _ h => ⟨h.rd 3 rfl, h.at 4 rfl⟩) rfl (q_add rfl rfl rfl) rfl rfl ?_
              refine a_all1 12 (by kernel_rfl) rfl rfl ?_
              refine e_entryStore (l := cntM ((adj l (j + 1)).map fP)) (kf := kfP) (vf := vI) ((ofM y).1, (ofM x).1) _ (IntKind.i64.wrap (((mget ((ofM y).1, (ofM x).1) (cntM ((adj l (j + 1)).map fP))).getD 0) + 1)) rfl rfl rfl rfl rfl ?_
              refine d_held (fun _ h => ⟨h.rd 3 rfl, h.at 4 rfl⟩) ?_
              refine a_nil (by kernel_rfl) ?_
              refine k_then ?_
              refine c_draw [(0, some true), (1, some true), (2, some true), (3, some true), (4, some true), (5, some true), (6, some true), (7, some true), (10, some true), (11, some true), (12, some true), (13, some true), (14, some true), (16, some true), (17, some true), (18, some true), (19, some true), (8, some false), (9, some false), (15, some true), (20, some true), (21, some false), (22, some true), (23, none)] [23] [(_, some true), (_, some true), (_, some true), (_, some true), (_, some true), (_, some true), (_, some true), (_, some true), (_, some true), (_, some true), (_, some true), (_, some true), (_, some true), (_, some true), (_, some true), (_, some true), (_, some true), (_, some false), (_, some false), (_, some true), (_, some true), (_, some false), (_, some true), (_, none)] (fun w2 => RdV w2 va encS l) (blind_block (blind_then (blind_then (blind_block (blind_then blind_body))))) rfl (by kernel_rfl) (by kernel_rfl) rfl rfl rfl (by kernel_rfl) St.drawn (fun _ h => hl.keep h (by simp [dom])) ?_
              refine d_q rfl (q_move rfl rfl) rfl rfl ?_
              refine d_q rfl (q_move rfl rfl) rfl rfl ?_
              refine d_q rfl (q_move rfl rfl) rfl rfl ?_
              refine d_q rfl (q_sub64 rfl rfl rfl (by omega)) rfl rfl ?_
              refine d_q rfl (q_indexV j rfl Try.underlying44 Try.sizeOf9 rfl (fun _ h => h) rfl (by omega) (by omega)) rfl rfl ?_
              refine d_q rfl (q_loadV j 0 rfl Try.isAgg9 rfl rfl (fun _ h => h) hy rfl) rfl rfl ?_
              refine d_q rfl (q_lenS rfl Try.underlying9 rfl) rfl rfl ?_
              refine d_q rfl (q_conv_in rfl Try.underlying3 Try.underlying5 rfl (wrapu8_in (by omega))) rfl rfl ?_
              refine d_q rfl (q_move rfl rfl) rfl rfl ?_
              refine d_q rfl (q_move rfl rfl) rfl rfl ?_
              refine d_q rfl (q_sub64 rfl rfl rfl (by omega)) rfl rfl ?_
              refine d_q rfl (q_indexV j rfl Try.underlying44 Try.sizeOf9 rfl (fun _ h => h) rfl (by omega) (by omega)) rfl rfl ?_
              refine d_q rfl (q_loadV j 0 rfl Try.isAgg9 rfl rfl (fun _ h => h) hy rfl) rfl rfl ?_
              refine d_q rfl (q_move rfl rfl) rfl rfl ?_
              refine d_q rfl (q_move rfl rfl) rfl rfl ?_
              refine d_q rfl (q_indexV (j + 1) rfl Try.underlying44 Try.sizeOf9 rfl (fun _ h => h) rfl rfl (by omega)) rfl rfl ?_
              refine d_q rfl (q_loadV (j + 1) 0 rfl Try.isAgg9 rfl rfl (fun _ h => h) hx rfl) rfl rfl ?_
              refine d_e rfl ?_
              refine e_buildSliceV (sz := 1) [.tmp 81] rfl rfl rfl rfl rfl Try.underlying51 Try.sizeOf5 rfl Try.zeroValue5 rfl ?_
              intro b9
              refine d_held (fun _ h => hl.keep h (by simp [dom])) ?_
              refine d_e rfl ?_
              refine e_q rfl rfl (q_b2s (l := [(y.size : Int)]) rfl Try.underlying51 Try.underlying5 Try.underlying9 rfl (fun _ h => lit_rd (h.at 0 rfl) (Sep.encI IntKind.u8) [(y.size : Int)] rfl rfl)) ?_
              refine d_held (fun _ h => hl.keep h (by simp [dom])) ?_
              refine d_q rfl (q_addS rfl rfl rfl (by show 1 + _ ≤ _; omega)) rfl rfl ?_
              refine d_q rfl (q_addS rfl rfl rfl (by rw [ByteArray.size_append]; show 1 + _ + _ ≤ _; omega)) rfl rfl ?_
              refine d_e rfl ?_
              refine e_lookup (l := cntM ((adj l (j + 1)).map fB)) (kf := Value.string) (vf := vI) (fB (y, x)) rfl rfl rfl Try.underlying47 (keyOk_str Try.underlying9) Try.zeroValue3 rfl rfl (fun _ h => h.at 6 rfl) ?_
              refine Pre.setV (t := 95) (c := .int .i64 ((mget (fB (y, x)) (cntM ((adj l (j + 1)).map fB))).getD 0)) rfl (by cases mget (fB (y, x)) (cntM ((adj l (j + 1)).map fB)) <;> rfl) ?_
              refine d_held (fun _ h => hl.keep h (by simp [dom])) ?_
              refine d_q rfl (q_add rfl rfl rfl) rfl rfl ?_
              refine pull6 ?_
              refine d_t rfl ?_
              refine e_put (a := (fB (y, x))) (v := IntKind.i64.wrap (((mget (fB (y, x)) (cntM ((adj l (j + 1)).map fB))).getD 0) + 1)) rfl rfl Try.underlying47 (keyOk_str Try.underlying9) rfl rfl rfl ?_
              refine d_nil ?_
              refine k_block ?_
              refine k_then ?_
              refine c_region _ rfl ?_
              refine l_q rfl (q_move rfl rfl) rfl rfl ?_
              refine l_q rfl (q_inc rfl rfl rfl (by omega)) rfl rfl ?_
              refine l_q rfl (q_assign rfl rfl) rfl rfl ?_
              refine l_nil ?_
              have hcp : cntM ((adj l (j + 1 + 1)).map fP) = bump (cntM ((adj l (j + 1)).map fP)) ((ofM y).1, (ofM x).1) := by rw [had, List.map_append]; exact cnt_snoc _ _
              have hcb : cntM ((adj l (j + 1 + 1)).map fB) = bump (cntM ((adj l (j + 1)).map fB)) (fB (y, x)) := by rw [had, List.map_append]; exact cnt_snoc _ _
              refine pull6 ?_
              refine drop0 ?_
              refine pull1 ?_
              refine drop0 ?_
              refine pull1 ?_
              refine pull2 ?_
              refine pull3 ?_
              refine pull4 ?_
              exact k_round ((j + 1 + 1, v2)) (by dsimp only; omega) ⟨by dsimp only; omega, hsh2⟩ (Sub.cons rfl (Sub.cons rfl (Sub.cons rfl (Sub.cons rfl (Sub.cons rfl (Sub.cons rfl (Sub.cons rfl (Sub.nil)))))))) (fun _ h => by dsimp only; rw [hcm, hct, hcp, hcb]; exact h)
          · try simp only [decide_eq_true_eq, decide_eq_false_iff_not, Bool.not_eq_true', Bool.not_eq_false'] at h5
            have hi0 : i = 0 := by omega
            subst hi0
            refine c_false rfl ?_
            refine c_skip ?_
            refine k_block ?_
            refine k_then ?_
            refine c_region _ rfl ?_
            refine l_q rfl (q_move rfl rfl) rfl rfl ?_
            refine l_q rfl (q_inc rfl rfl rfl (by omega)) rfl rfl ?_
            refine l_q rfl (q_assign rfl rfl) rfl rfl ?_
            refine l_nil ?_
            refine pull3 ?_
            refine drop0 ?_
            refine pull4 ?_
            refine pull4 ?_
            refine pull2 ?_
            refine pull3 ?_
            refine pull4 ?_
            exact k_round ((0 + 1, v2)) (by dsimp only; omega) ⟨by dsimp only; omega, hsh2⟩ (Sub.cons rfl (Sub.cons rfl (Sub.cons rfl (Sub.cons rfl (Sub.cons rfl (Sub.cons rfl (Sub.cons rfl (Sub.nil)))))))) (fun _ h => by dsimp only; rw [hcm, hct]; exact h)
    · try simp only [decide_eq_true_eq, decide_eq_false_iff_not, Bool.not_eq_true', Bool.not_eq_false'] at h3
      have hie : i = l.length := by omega
      subst hie
      rw [List.take_length] at hsh hkl ⊢
      have hcm : cntM (kl l) = (cntM l).map (fun p => ((ofM p.1).1, p.2)) := cnt_map (fun x hx y hy e => keyS_inj (hsh x hx) (hsh y hy) e)
      have hkk : ∀ p ∈ cntM l, p.1 ∈ l := fun p hp => (cnt_keys hp).elim id (fun ⟨q, hq, _⟩ => absurd hq List.not_mem_nil)
      have hget : ∀ x ∈ l, mget (ofM x).1 (cntM (kl l)) = mget x (cntM l) := fun x hx => by rw [hcm]; exact mget_map (f := fun s => (ofM s).1) (fun p hp e => keyS_inj (hsh x hx) (hsh _ (hkk p hp)) e)
      have hlen : (cntM (kl l)).length = (cntM l).length := by rw [hcm, List.length_map]
      have hdd := cnt_dd (kl l)
      have hadj : ∀ p ∈ adj l l.length, p.1.size ≤ 8 ∧ p.2.size ≤ 8 := fun p hp => ⟨hsh _ (adj_mem (Nat.le_refl _) hp).1, hsh _ (adj_mem (Nat.le_refl _) hp).2⟩
      have hpb : (cntM ((adj l l.length).map fP)).length = (cntM ((adj l l.length).map fB)).length := by rw [cnt_map (fun x hx y hy e => fP_inj (hadj x hx) (hadj y hy) e), cnt_map (fun x hx y hy e => fB_inj (hadj x hx).1 (hadj y hy).1 e), List.length_map, List.length_map]
      refine c_false rfl ?_
      refine c_exit ?_
      refine k_then_exit ?_
      refine k_then_exit ?_
      refine k_block_exit ?_
      refine k_then ?_
      refine c_seq ?_
      refine c_seq ?_
      refine c_region _ rfl ?_
      refine l_q rfl (q_assign rfl rfl) rfl rfl ?_
      refine l_nil ?_
      refine k_then ?_
      refine c_block ?_
      refine c_loop1 (fun (i : Nat) => [(0, va), (3, .map (some bm)), (4, .map (some bt)), (5, .map (some bp)), (6, .map (some bb)), (7, vk), (11, .int .i64 (i : Int))]) (fun (i : Nat) => St w [] [rowE vk 24 (Kv.enc 8) (kl l), mapS bm kfK vI (cntM (kl l)), mapE bt Value.string vI (cntM (l)), mapS bp kfP vI (cntM ((adj l l.length).map fP)), mapE bb Value.string vI (cntM ((adj l l.length).map fB))]) (fun (i : Nat) => i ≤ l.length) (fun (i : Nat) => l.length - i) (0) (Nat.zero_le _) (Sub.cons rfl (Sub.cons rfl (Sub.cons rfl (Sub.cons rfl (Sub.cons rfl (Sub.cons rfl (Sub.cons rfl (Sub.nil)))))))) (fun _ h => h) ?_
      intro i hi2
      refine c_seq ?_
      refine c_seq ?_
      refine c_region _ rfl ?_
      refine l_q rfl (q_move rfl rfl) rfl rfl ?_
      refine l_q rfl (q_move rfl rfl) rfl rfl ?_
      refine l_q rfl (q_lenV rfl Try.underlying44 rfl (fun _ h => hl.keep h (by simp [dom]))) rfl rfl ?_
      refine l_q rfl (q_lss rfl rfl rfl) rfl rfl ?_
      refine l_nil ?_
      refine k_then ?_
      refine Pre.caseB 100 rfl (fun h6 => ?_) (fun h6 => ?_)
      · try simp only [decide_eq_true_eq, decide_eq_false_iff_not, Bool.not_eq_true', Bool.not_eq_false'] at h6
        obtain ⟨x, hx⟩ : ∃ x, l[i]? = some x := ⟨_, List.getElem?_eq_getElem (by omega)⟩
        have hki := kl_all hx
        have hgx := hget x (List.mem_of_getElem? hx)
        refine c_true rfl ?_
        refine c_skip ?_
        refine k_then ?_
        refine c_seq ?_
        refine c_block ?_
        refine c_seq ?_
        refine c_any (fun w2 => RdV w2 vk (Kv.enc 8) (kl l) ∧ RdV w2 va encS l) rfl St.drawn ?_
        refine a_q (blind_then (blind_block (blind_then (blind_then (blind_block (blind_then blind_body)))))) 0 rfl (by kernel_rfl) (by kernel_rfl) (by kernel_rfl) (fun _ h => ⟨h.rd 0 rfl, hl.keep h (by simp [dom])⟩) rfl (q_move rfl rfl) rfl rfl ?_
        refine a_q (blind_then (blind_block (blind_then (blind_then (blind_block (blind_then blind_body)))))) 1 rfl (by kernel_rfl) (by kernel_rfl) (by kernel_rfl) (fun _ h => ⟨h.rd 0 rfl, hl.keep h (by simp [dom])⟩) rfl (q_move rfl rfl) rfl rfl ?_
        refine a_q (blind_then (blind_block (blind_then (blind_then (blind_block (blind_then blind_body)))))) 2 rfl (by kernel_rfl) (by kernel_rfl) (by kernel_rfl) (fun _ h => ⟨h.rd 0 rfl, hl.keep h (by simp [dom])⟩) rfl (q_move rfl rfl) rfl rfl ?_
        refine a_q (blind_then (blind_block (blind_then (blind_then (blind_block (blind_then blind_body)))))) 3 rfl (by kernel_rfl) (by kernel_rfl) (by kernel_rfl) (fun _ h => ⟨h.rd 0 rfl, hl.keep h (by simp [dom])⟩) rfl (q_indexV i rfl Try.underlying25 Try.sizeOf24 rfl (fun _ h => h.1) rfl rfl (by omega)) rfl rfl ?_
        refine a_q (blind_then (blind_block (blind_then (blind_then (blind_block (blind_then blind_body)))))) 4 rfl (by kernel_rfl) (by kernel_rfl) (by kernel_rfl) (fun _ h => ⟨h.rd 0 rfl, hl.keep h (by simp [dom])⟩) rfl (q_loadVAgg i rfl Try.isAgg24 Try.sizeOf24 rfl rfl (fun _ h => h.1) hki) rfl rfl ?_
        refine a_q (blind_then (blind_block (blind_then (blind_then (blind_block (blind_then blind_body)))))) 6 rfl (by kernel_rfl) (by kernel_rfl) (by kernel_rfl) (fun _ h => ⟨h.rd 0 rfl, hl.keep h (by simp [dom])⟩) rfl (q_move rfl rfl) rfl rfl ?_
        refine a_q (blind_then (blind_block (blind_then (blind_then (blind_block (blind_then blind_body)))))) 7 rfl (by kernel_rfl) (by kernel_rfl) (by kernel_rfl) (fun _ h => ⟨h.rd 0 rfl, hl.keep h (by simp [dom])⟩) rfl (q_move rfl rfl) rfl rfl ?_
        refine a_q (blind_then (blind_block (blind_then (blind_then (blind_block (blind_then blind_body)))))) 8 rfl (by kernel_rfl) (by kernel_rfl) (by kernel_rfl) (fun _ h => ⟨h.rd 0 rfl, hl.keep h (by simp [dom])⟩) rfl (q_move rfl rfl) rfl rfl ?_
        refine a_q (blind_then (blind_block (blind_then (blind_then (blind_block (blind_then blind_body)))))) 9 rfl (by kernel_rfl) (by kernel_rfl) (by kernel_rfl) (fun _ h => ⟨h.rd 0 rfl, hl.keep h (by simp [dom])⟩) rfl (q_indexV i rfl Try.underlying44 Try.sizeOf9 rfl (fun _ h => h.2) rfl rfl (by omega)) rfl rfl ?_
        refine a_q (blind_then (blind_block (blind_then (blind_then (blind_block (blind_then blind_body)))))) 10 rfl (by kernel_rfl) (by kernel_rfl) (by kernel_rfl) (fun _ h => ⟨h.rd 0 rfl, hl.keep h (by simp [dom])⟩) rfl (q_loadV i 0 rfl Try.isAgg9 rfl rfl (fun _ h => h.2) hx rfl) rfl rfl ?_
        refine a_all2 5 11 (by kernel_rfl) rfl rfl rfl rfl ?_ ?_ 
        · refine e_lookup (l := cntM (kl l)) (kf := kfK) (vf := vI) (ofM x).1 rfl rfl rfl Try.underlying46 keyK Try.zeroValue3 rfl rfl (fun _ h => mapS_map (h.at 1 rfl)) ?_
          refine Pre.setV (t := 108) (c := .int .i64 ((mget x (cntM l)).getD 0)) rfl (by rw [hgx]; cases mget x (cntM l) <;> rfl) ?_
          refine d_held (fun _ h => ⟨h.rd 0 rfl, hl.keep h (by simp [dom])⟩) ?_
          refine a_all1 11 (by kernel_rfl) rfl rfl ?_
          refine e_lookup (l := cntM l) (kf := Value.string) (vf := vI) x rfl rfl rfl Try.underlying47 (keyOk_str Try.underlying9) Try.zeroValue3 rfl rfl (fun _ h => h.at 2 rfl) ?_
          refine Pre.setV (t := 114) (c := .int .i64 ((mget x (cntM l)).getD 0)) rfl (by cases mget x (cntM l) <;> rfl) ?_
          refine d_held (fun _ h => ⟨h.rd 0 rfl, hl.keep h (by simp [dom])⟩) ?_
          refine a_q (blind_then (blind_block (blind_then (blind_then (blind_block (blind_then blind_body)))))) 12 rfl (by kernel_rfl) (by kernel_rfl) (by kernel_rfl) (fun _ h => ⟨h.rd 0 rfl, hl.keep h (by simp [dom])⟩) rfl (q_neq rfl rfl rfl) rfl rfl ?_
          refine a_nil (by kernel_rfl) ?_
          refine k_then ?_
          refine Pre.setB (t := 115) (c := false) rfl (by simp) ?_
          refine c_false rfl ?_
          refine c_skip ?_
          refine k_block ?_
          refine k_then ?_
          refine c_region _ rfl ?_
          refine l_q rfl (q_move rfl rfl) rfl rfl ?_
          refine l_q rfl (q_inc rfl rfl rfl (by omega)) rfl rfl ?_
          refine l_q rfl (q_assign rfl rfl) rfl rfl ?_
          refine l_nil ?_
          exact k_round (i + 1) (by omega) (by omega) (Sub.cons rfl (Sub.cons rfl (Sub.cons rfl (Sub.cons rfl (Sub.cons rfl (Sub.cons rfl (Sub.cons rfl (Sub.nil)))))))) (fun _ h => h)
        · refine e_lookup (l := cntM l) (kf := Value.string) (vf := vI) x rfl rfl rfl Try.underlying47 (keyOk_str Try.underlying9) Try.zeroValue3 rfl rfl (fun _ h => h.at 2 rfl) ?_
          refine Pre.setV (t := 114) (c := .int .i64 ((mget x (cntM l)).getD 0)) rfl (by cases mget x (cntM l) <;> rfl) ?_
          refine d_held (fun _ h => ⟨h.rd 0 rfl, hl.keep h (by simp [dom])⟩) ?_
          refine a_all1 5 (by kernel_rfl) rfl rfl ?_
          refine e_lookup (l := cntM (kl l)) (kf := kfK) (vf := vI) (ofM x).1 rfl rfl rfl Try.underlying46 keyK Try.zeroValue3 rfl rfl (fun _ h => mapS_map (h.at 1 rfl)) ?_
          refine Pre.setV (t := 108) (c := .int .i64 ((mget x (cntM l)).getD 0)) rfl (by rw [hgx]; cases mget x (cntM l) <;> rfl) ?_
          refine d_held (fun _ h => ⟨h.rd 0 rfl, hl.keep h (by simp [dom])⟩) ?_
          refine a_q (blind_then (blind_block (blind_then (blind_then (blind_block (blind_then blind_body)))))) 12 rfl (by kernel_rfl) (by kernel_rfl) (by kernel_rfl) (fun _ h => ⟨h.rd 0 rfl, hl.keep h (by simp [dom])⟩) rfl (q_neq rfl rfl rfl) rfl rfl ?_
          refine a_nil (by kernel_rfl) ?_
          refine k_then ?_
          refine Pre.setB (t := 115) (c := false) rfl (by simp) ?_
          refine c_false rfl ?_
          refine c_skip ?_
          refine k_block ?_
          refine k_then ?_
          refine c_region _ rfl ?_
          refine l_q rfl (q_move rfl rfl) rfl rfl ?_
          refine l_q rfl (q_inc rfl rfl rfl (by omega)) rfl rfl ?_
          refine l_q rfl (q_assign rfl rfl) rfl rfl ?_
          refine l_nil ?_
          exact k_round (i + 1) (by omega) (by omega) (Sub.cons rfl (Sub.cons rfl (Sub.cons rfl (Sub.cons rfl (Sub.cons rfl (Sub.cons rfl (Sub.cons rfl (Sub.nil)))))))) (fun _ h => h)
      · try simp only [decide_eq_true_eq, decide_eq_false_iff_not, Bool.not_eq_true', Bool.not_eq_false'] at h6
        refine c_false rfl ?_
        refine c_exit ?_
        refine k_then_exit ?_
        refine k_then_exit ?_
        refine k_block_exit ?_
        refine k_then ?_
        refine c_seq ?_
        refine c_region _ rfl ?_
        refine l_q rfl (q_move rfl rfl) rfl rfl ?_
        refine l_q rfl (q_lenM rfl Try.underlying46 rfl (fun _ h => mapS_map (h.at 1 rfl))) rfl rfl ?_
        refine l_q rfl (q_move rfl rfl) rfl rfl ?_
        refine l_q rfl (q_lenM rfl Try.underlying47 rfl (fun _ h => h.at 2 rfl)) rfl rfl ?_
        refine l_q rfl (q_eql rfl rfl rfl) rfl rfl ?_
        refine l_q rfl (q_move rfl rfl) rfl rfl ?_
        refine Pre.setB (t := 121) (c := true) rfl (by first | rfl | exact decide_eq_true (congrArg (fun n : Nat => (n : Int)) hlen) | exact decide_eq_true (congrArg (fun n : Nat => (n : Int)) hdd.symm) | exact decide_eq_true (congrArg (fun n : Nat => (n : Int)) hpb)) ?_
        refine l_q rfl (q_move rfl rfl) rfl rfl ?_
        refine l_e rfl ?_
        refine e_call_00 (kinds_spec (kl l) (by omega)) rfl rfl rfl Try.call17 rfl (fun _ h => h.rd 0 rfl) ?_
        intro _ _
        refine l_q rfl (q_move rfl rfl) rfl rfl ?_
        refine l_q rfl (q_lenM rfl Try.underlying46 rfl (fun _ h => mapS_map (h.at 1 rfl))) rfl rfl ?_
        refine l_q rfl (q_eql rfl rfl rfl) rfl rfl ?_
        refine l_q rfl (q_pick_t rfl rfl rfl) rfl rfl ?_
        refine l_q rfl (q_move rfl rfl) rfl rfl ?_
        refine Pre.setB (t := 128) (c := true) rfl (by first | rfl | exact decide_eq_true (congrArg (fun n : Nat => (n : Int)) hlen) | exact decide_eq_true (congrArg (fun n : Nat => (n : Int)) hdd.symm) | exact decide_eq_true (congrArg (fun n : Nat => (n : Int)) hpb)) ?_
        refine l_q rfl (q_move rfl rfl) rfl rfl ?_
        refine l_q rfl (q_lenM rfl Try.underlying48 rfl (fun _ h => mapS_map (h.at 3 rfl))) rfl rfl ?_
        refine l_q rfl (q_move rfl rfl) rfl rfl ?_
        refine l_q rfl (q_lenM rfl Try.underlying47 rfl (fun _ h => h.at 4 rfl)) rfl rfl ?_
        refine l_q rfl (q_eql rfl rfl rfl) rfl rfl ?_
        refine l_q rfl (q_pick_t rfl rfl rfl) rfl rfl ?_
        refine l_q rfl (q_move rfl rfl) rfl rfl ?_
        refine Pre.setB (t := 135) (c := true) rfl (by first | rfl | exact decide_eq_true (congrArg (fun n : Nat => (n : Int)) hlen) | exact decide_eq_true (congrArg (fun n : Nat => (n : Int)) hdd.symm) | exact decide_eq_true (congrArg (fun n : Nat => (n : Int)) hpb)) ?_
        refine l_e rfl ?_
        refine e_call_00 (awake_spec) rfl rfl rfl Try.call10 rfl (fun _ _ => trivial) ?_
        intro _ _
        refine l_q rfl (q_pick_t rfl rfl rfl) rfl rfl ?_
        refine l_q rfl (q_assign rfl rfl) rfl rfl ?_
        refine l_nil ?_
        refine k_then ?_
        refine c_ret ?_
        refine r_one rfl rfl ?_
        exact fun _ h => ⟨(), rfl, trivial, h.nothing⟩
theorem keyMaps_walk (w : World) (A0 : Option Addr) (c0 : Nat) (z0 : List ByteArray) (rd0 : Rd w w.heap.size A0 (z0.map .string)) (l0 : z0.length ≤ c0) (m0 : c0 ≤ maxLen) (w0 : ∀ z ∈ z0, z.size ≤ maxLen) :
    Calls Try.prog 9 #[.slice A0 z0.length c0] w fun e w' => e = .returned (.bool true) ∧ Below w.heap.size w w' := by
  have f0 := flat_one' encS Value.string (fun _ => rfl) z0
  rw [← f0] at rd0
  exact con_walk (maps_spec z0) (rdv_of rd0 l0)
end Go.Proofs.Ytaojcncmbbgmcaa
