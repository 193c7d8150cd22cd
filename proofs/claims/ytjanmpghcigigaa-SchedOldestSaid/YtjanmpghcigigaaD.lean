/- sched: the reference's Pick, the makers -/
import Derived.Test.YtjanmpghcigigaaC
set_option linter.unusedVariables false
set_option linter.unusedSimpArgs false
namespace Go.Proofs.Ytjanmpghcigigaa
open Go.Sep Go.RowKit

set_option maxRecDepth 100000 in
set_option maxHeartbeats 1000000 in
theorem rpick_spec {m : Tab} {c : Int} (hm : m.Ok c) (r : Nat) (vS vW vT : Value) (hc0 : c ≤ 1000000) (p : Int) : Con Try.prog 22 [.pointer (some ⟨r, 0, none⟩), .int .i64 p] (fun _ => True) (RT r vS vW vT m) (fun _ : Unit => .tuple #[.int .i64 (whoM m p : Int), .bool (decide (runM m ≠ []))]) (fun _ => True) (fun _ => RT r vS vW vT (pickM m p)) := by
  intro w hE hH
  have h8 := hm.n8
  have e1 := hm.st
  have e2 := hm.wt
  have e3 := hm.pk
  have hrl := runM_len m
  refine enter (n := 91) (vs := [.pointer (some ⟨r, 0, none⟩), .int .i64 p]) (St w (dom (RT r vS vW vT m)) (RT r vS vW vT m)) Try.func22 rfl rfl rfl (St.init hH) ?_
  refine c_seq ?_
  refine c_region _ rfl ?_
  refine l_q rfl (q_assign rfl rfl) rfl rfl ?_
  refine l_q rfl (q_assign rfl rfl) rfl rfl ?_
  refine l_nil ?_
  refine k_then ?_
  refine c_seq ?_
  refine c_region _ rfl ?_
  refine l_q rfl (q_move rfl rfl) rfl rfl ?_
  refine l_e rfl ?_
  refine e_call_45 (rrunnable_spec hm r vS vW vT) rfl rfl rfl Try.call25 rfl (fun _ _ => trivial) ?_
  intro v _
  refine l_q rfl (q_assign rfl rfl) rfl rfl ?_
  refine l_nil ?_
  refine k_then ?_
  refine c_seq ?_
  refine c_seq ?_
  refine c_region _ rfl ?_
  refine l_q rfl (q_move rfl rfl) rfl rfl ?_
  refine l_q rfl (q_lenV rfl Try.underlying42 rfl (fun _ h => h.rd 0 rfl)) rfl rfl ?_
  refine l_q rfl (q_eql rfl rfl rfl) rfl rfl ?_
  refine l_nil ?_
  refine k_then ?_
  refine Pre.caseB 14 rfl (fun h0 => ?_) (fun h0 => ?_)
  · simp only [decide_eq_true_eq, decide_eq_false_iff_not, Bool.not_eq_true', Bool.not_eq_false'] at h0
    have h00 : runM m = [] := by simpa [nints] using h0
    have hP : pickM m p = m := by unfold pickM; rw [if_pos h00]
    refine c_true rfl ?_
    refine c_seq ?_
    refine c_region _ rfl ?_
    refine l_q rfl (q_assign rfl rfl) rfl rfl ?_
    refine l_q rfl (q_assign rfl rfl) rfl rfl ?_
    refine l_nil ?_
    refine k_then ?_
    refine c_ret ?_
    refine k_then_ret ?_
    refine r_many (rs := [.tmp 4, .tmp 5]) rfl rfl ?_
    exact fun _ h => ⟨(), by simp [whoM, h00], trivial, by rw [hP]; exact h.drop⟩
  · simp only [decide_eq_true_eq, decide_eq_false_iff_not, Bool.not_eq_true', Bool.not_eq_false'] at h0
    have h00 : runM m ≠ [] := by simpa [nints] using h0
    have hlen : 0 < (runM m).length := List.length_pos_iff.2 h00
    have hnl : (nints (runM m)).length = (runM m).length := nints_len _
    have hjl := who_lt p h00
    have hkt := who_get p h00
    have hwl := runM_lt (who_mem p h00)
    have hend := ref_end (m := m) (p := p) h00
    have b1 := Int.tmod_lt_of_pos p (show (0 : Int) < ((nints (runM m)).length : Int) by omega)
    have b2 : -((nints (runM m)).length : Int) < p.tmod ((nints (runM m)).length : Int) := Int.lt_tmod_of_pos p (by omega)
    have hrest := tmod_place (v := p) (n := ((nints (runM m)).length : Int)) (by omega)
    have hnn := Int.emod_nonneg p (show ((runM m).length : Int) ≠ 0 by omega)
    have hjn : p % ((nints (runM m)).length : Int) = (((p % ((runM m).length : Int)).toNat : Nat) : Int) := by rw [hnl, Int.toNat_of_nonneg hnn]
    rw [hjn] at hrest
    generalize whoM m p = t at *
    generalize (p % ((runM m).length : Int)).toNat = kk at *
    refine c_false rfl ?_
    refine c_skip ?_
    refine k_then ?_
    refine c_seq ?_
    refine c_region _ rfl ?_
    refine l_q rfl (q_move rfl rfl) rfl rfl ?_
    refine l_q rfl (q_move rfl rfl) rfl rfl ?_
    refine l_q rfl (q_lenV rfl Try.underlying42 rfl (fun _ h => h.rd 0 rfl)) rfl rfl ?_
    refine l_q rfl (q_rem rfl rfl rfl (by omega)) rfl rfl ?_
    refine l_q rfl (q_assign rfl rfl) rfl rfl ?_
    refine l_nil ?_
    refine k_then ?_
    refine c_seq ?_
    refine c_seq ?_
    refine c_region _ rfl ?_
    refine l_q rfl (q_move rfl rfl) rfl rfl ?_
    refine l_q rfl (q_lss rfl rfl rfl) rfl rfl ?_
    refine l_nil ?_
    refine k_then ?_
    refine Pre.caseB 20 rfl (fun hs => ?_) (fun hs => ?_)
    · simp only [decide_eq_true_eq, decide_eq_false_iff_not, Bool.not_eq_true', Bool.not_eq_false'] at hs
      rw [if_pos hs] at hrest
      refine c_true rfl ?_
      refine c_region _ rfl ?_
      refine l_q rfl (q_move rfl rfl) rfl rfl ?_
      refine l_q rfl (q_move rfl rfl) rfl rfl ?_
      refine l_q rfl (q_lenV rfl Try.underlying42 rfl (fun _ h => h.rd 0 rfl)) rfl rfl ?_
      refine l_q rfl (q_add64 rfl rfl rfl (by omega)) rfl rfl ?_
      refine l_q rfl (q_assign rfl rfl) rfl rfl ?_
      refine l_nil ?_
      refine k_then ?_
      refine c_seq ?_
      refine c_seq ?_
      refine c_region _ rfl ?_
      refine l_q rfl (q_assign rfl rfl) rfl rfl ?_
      refine l_nil ?_
      refine k_then ?_
      refine c_block ?_
      refine c_loop1 (fun (i : Nat) => [(0, .pointer (some ⟨r, 0, none⟩)), (6, v), (7, .int .i64 (kk : Int)), (8, .int .i64 (i : Int))]) (fun (i : Nat) => St w (dom (RT r vS vW vT m)) (rowE v 3 (encI .i64) (nints (runM m)) :: RT r vS vW vT (refR m t kk i))) (fun (i : Nat) => i ≤ (runM m).length) (fun (i : Nat) => (runM m).length - i) (0) (Nat.zero_le _) (Sub.cons rfl (Sub.cons rfl (Sub.consE rfl (by rw [hrest]) (Sub.cons rfl Sub.nil)))) (fun _ h => by rw [ref_zero]; exact h) ?_
      intro i hi
      refine c_seq ?_
      refine c_seq ?_
      refine c_region _ rfl ?_
      refine l_q rfl (q_move rfl rfl) rfl rfl ?_
      refine l_q rfl (q_move rfl rfl) rfl rfl ?_
      refine l_q rfl (q_lenV rfl Try.underlying42 rfl (fun _ h => h.rd 0 rfl)) rfl rfl ?_
      refine l_q rfl (q_lss rfl rfl rfl) rfl rfl ?_
      refine l_nil ?_
      refine k_then ?_
      refine Pre.caseB 28 rfl (fun h1 => ?_) (fun h1 => ?_)
      · simp only [decide_eq_true_eq, decide_eq_false_iff_not, Bool.not_eq_true', Bool.not_eq_false'] at h1
        have hi2 : i < (runM m).length := by omega
        obtain ⟨x, hg⟩ : ∃ x, (runM m)[i]? = some x := ⟨_, List.getElem?_eq_getElem hi2⟩
        have hg2 := nints_get hg
        have hx := runM_lt (List.mem_of_getElem? hg)
        obtain ⟨hmi, hni⟩ := ref_ok hm (t := t) (k := kk) hwl i
        have hse := ref_succ hkt hg
        have hsa := ref_at hkt hg
        have hxe := ref_eq hkt hg
        have hxn := ref_ne hkt hg
        generalize refR m t kk i = M at *
        have hwx := hmi.wt0 x (by omega)
        have hpx := hmi.pk0 x (by omega)
        have hw0 := hmi.w0
        have hxM : x < M.n := by omega
        have f1 := hmi.st
        have f2 := hmi.wt
        have f3 := hmi.pk
        refine c_true rfl ?_
        refine c_skip ?_
        refine k_then ?_
        refine c_seq ?_
        refine c_block ?_
        refine c_seq ?_
        refine c_region _ rfl ?_
        refine l_q rfl (q_move rfl rfl) rfl rfl ?_
        refine l_q rfl (q_move rfl rfl) rfl rfl ?_
        refine l_q rfl (q_indexV i rfl Try.underlying42 Try.sizeOf3 rfl (fun _ h => h.rd 0 rfl) rfl rfl (by omega)) rfl rfl ?_
        refine l_q rfl (q_loadV i 0 rfl Try.isAgg3 rfl rfl (fun _ h => h.rd 0 rfl) hg2 rfl) rfl rfl ?_
        refine l_q rfl (q_assign rfl rfl) rfl rfl ?_
        refine l_nil ?_
        refine k_then ?_
        refine c_seq ?_
        refine c_draw [(0, some true), (1, some true), (2, some true), (3, some true), (4, some true), (5, some true), (6, some true), (7, some true), (8, some true), (9, some true), (10, some true), (11, some true), (12, some true), (13, some true), (14, none)] [14] [(_, some true), (_, some true), (_, some true), (_, some true), (_, some true), (_, some true), (_, some true), (_, some true), (_, some true), (_, some true), (_, some true), (_, some true), (_, some true), (_, some true), (_, none)] _ (blind_then (blind_block (blind_then (blind_then (blind_block (blind_then blind_body)))))) rfl (by kernel_rfl) (by kernel_rfl) rfl rfl rfl (by kernel_rfl) St.drawn (fun _ h => h) ?_
        refine d_q rfl (q_move rfl rfl) rfl rfl ?_
        refine d_q rfl (q_nilCheck rfl rfl) rfl rfl ?_
        refine d_q rfl (q_fieldAddr rfl Try.underlying45 rfl Try.sizeOf42 rfl rfl) rfl rfl ?_
        refine d_q rfl (q_loadC rfl Try.isAgg42 rfl (fun _ h => h.at 1 rfl) rfl) rfl rfl ?_
        refine d_q rfl (q_move rfl rfl) rfl rfl ?_
        refine d_q rfl (q_move rfl rfl) rfl rfl ?_
        refine d_q rfl (q_nilCheck rfl rfl) rfl rfl ?_
        refine d_q rfl (q_fieldAddr rfl Try.underlying45 rfl Try.sizeOf42 rfl rfl) rfl rfl ?_
        refine d_q rfl (q_loadC rfl Try.isAgg42 rfl (fun _ h => h.at 1 rfl) rfl) rfl rfl ?_
        refine d_q rfl (q_move rfl rfl) rfl rfl ?_
        refine d_q rfl (q_indexV x rfl Try.underlying42 Try.sizeOf3 rfl (fun _ h => h.rd 3 rfl) rfl rfl (by omega)) rfl rfl ?_
        refine d_q rfl (q_loadV x 0 rfl Try.isAgg3 rfl rfl (fun _ h => h.rd 3 rfl) (gd (by omega)) rfl) rfl rfl ?_
        refine d_q rfl (q_add64 rfl rfl rfl (by omega)) rfl rfl ?_
        refine d_q rfl (q_indexV x rfl Try.underlying42 Try.sizeOf3 rfl (fun _ h => h.rd 3 rfl) rfl rfl (by omega)) rfl rfl ?_
        refine pull3 ?_
        refine d_t rfl ?_
        refine e_storeV x 0 (M.wt.getD x 0 + 1) rfl rfl Try.sizeOf3 rfl rfl rfl (gd (by omega)) (by decide) rfl ?_
        refine d_nil ?_
        refine k_then ?_
        refine c_seq ?_
        refine c_seq ?_
        refine c_region _ rfl ?_
        refine l_q rfl (q_move rfl rfl) rfl rfl ?_
        refine l_q rfl (q_move rfl rfl) rfl rfl ?_
        refine l_q rfl (q_eql rfl rfl rfl) rfl rfl ?_
        refine l_nil ?_
        refine k_then ?_
        have hg3 : (M.wt.set x (M.wt.getD x 0 + 1)).getD x 0 = M.wt.getD x 0 + 1 := by rw [getD_set, if_pos ⟨rfl, by omega⟩]
        refine Pre.caseB 51 rfl (fun hk => ?_) (fun hk => ?_)
        · simp only [decide_eq_true_eq, decide_eq_false_iff_not, Bool.not_eq_true', Bool.not_eq_false'] at hk
          have hik : i = kk := by omega
          obtain rfl := hxe hik
          have hl1 : (M.wt.set x (M.wt.getD x 0 + 1)).length = M.n := by simp [f2]
          refine c_true rfl ?_
          refine c_seq ?_
          refine c_region _ rfl ?_
          refine l_q rfl (q_move rfl rfl) rfl rfl ?_
          refine l_q rfl (q_nilCheck rfl rfl) rfl rfl ?_
          refine l_q rfl (q_fieldAddr rfl Try.underlying45 rfl Try.sizeOf42 rfl rfl) rfl rfl ?_
          refine l_q rfl (q_loadC rfl Try.isAgg42 rfl (fun _ h => h.at 2 rfl) rfl) rfl rfl ?_
          refine l_q rfl (q_move rfl rfl) rfl rfl ?_
          refine l_q rfl (q_indexV x rfl Try.underlying42 Try.sizeOf3 rfl (fun _ h => h.rd 0 rfl) rfl rfl (by omega)) rfl rfl ?_
          refine l_e rfl ?_
          refine e_storeV x 0 (0) rfl rfl Try.sizeOf3 rfl rfl rfl (gd (by omega)) (by decide) rfl ?_
          refine l_nil ?_
          refine k_then ?_
          refine c_draw [(0, some true), (1, some true), (2, some true), (3, some true), (4, some true), (5, some true), (6, some true), (7, some true), (8, some true), (9, some true), (10, some true), (11, some true), (12, some true), (13, some true), (14, none)] [14] [(_, some true), (_, some true), (_, some true), (_, some true), (_, some true), (_, some true), (_, some true), (_, some true), (_, some true), (_, some true), (_, some true), (_, some true), (_, some true), (_, some true), (_, none)] _ (blind_then (blind_block (blind_then (blind_then (blind_block (blind_then blind_body)))))) rfl (by kernel_rfl) (by kernel_rfl) rfl rfl rfl (by kernel_rfl) St.drawn (fun _ h => h) ?_
          refine d_q rfl (q_move rfl rfl) rfl rfl ?_
          refine d_q rfl (q_nilCheck rfl rfl) rfl rfl ?_
          refine d_q rfl (q_fieldAddr rfl Try.underlying45 rfl Try.sizeOf42 rfl rfl) rfl rfl ?_
          refine d_q rfl (q_loadC rfl Try.isAgg42 rfl (fun _ h => h.at 2 rfl) rfl) rfl rfl ?_
          refine d_q rfl (q_move rfl rfl) rfl rfl ?_
          refine d_q rfl (q_move rfl rfl) rfl rfl ?_
          refine d_q rfl (q_nilCheck rfl rfl) rfl rfl ?_
          refine d_q rfl (q_fieldAddr rfl Try.underlying45 rfl Try.sizeOf42 rfl rfl) rfl rfl ?_
          refine d_q rfl (q_loadC rfl Try.isAgg42 rfl (fun _ h => h.at 2 rfl) rfl) rfl rfl ?_
          refine d_q rfl (q_move rfl rfl) rfl rfl ?_
          refine d_q rfl (q_indexV x rfl Try.underlying42 Try.sizeOf3 rfl (fun _ h => h.rd 4 rfl) rfl rfl (by omega)) rfl rfl ?_
          refine d_q rfl (q_loadV x 0 rfl Try.isAgg3 rfl rfl (fun _ h => h.rd 4 rfl) (gd (by omega)) rfl) rfl rfl ?_
          refine d_q rfl (q_add64 rfl rfl rfl (by omega)) rfl rfl ?_
          refine d_q rfl (q_indexV x rfl Try.underlying42 Try.sizeOf3 rfl (fun _ h => h.rd 4 rfl) rfl rfl (by omega)) rfl rfl ?_
          have hl2 : ((M.wt.set x (M.wt.getD x 0 + 1)).set x 0).length = M.n := by simp [f2]
          have hg4 : ((M.wt.set x (M.wt.getD x 0 + 1)).set x 0).getD x 0 = 0 := by rw [getD_set, if_pos ⟨rfl, by omega⟩]
          refine pull4 ?_
          refine d_t rfl ?_
          refine e_storeV x 0 (M.pk.getD x 0 + 1) rfl rfl Try.sizeOf3 rfl rfl rfl (gd (by omega)) (by decide) rfl ?_
          refine d_nil ?_
          refine k_then ?_
          refine c_draw [(0, some true), (1, some true), (2, some true), (3, some true), (4, some true), (5, some true), (6, some true), (7, some true), (8, some true), (9, some true), (10, some true), (11, some true), (12, some true), (13, some true), (14, some true), (15, none)] [15] [(_, some true), (_, some true), (_, some true), (_, some true), (_, some true), (_, some true), (_, some true), (_, some true), (_, some true), (_, some true), (_, some true), (_, some true), (_, some true), (_, some true), (_, some true), (_, none)] _ (blind_block (blind_then (blind_then (blind_block (blind_then blind_body))))) rfl (by kernel_rfl) (by kernel_rfl) rfl rfl rfl (by kernel_rfl) St.drawn (fun _ h => h) ?_
          refine d_q rfl (q_move rfl rfl) rfl rfl ?_
          refine d_q rfl (q_move rfl rfl) rfl rfl ?_
          refine d_q rfl (q_nilCheck rfl rfl) rfl rfl ?_
          refine d_q rfl (q_fieldAddr rfl Try.underlying45 rfl Try.sizeOf3 rfl rfl) rfl rfl ?_
          refine d_q rfl (q_loadC rfl Try.isAgg3 rfl (fun _ h => h.at 3 rfl) rfl) rfl rfl ?_
          refine d_q rfl (q_move rfl rfl) rfl rfl ?_
          refine d_q rfl (q_nilCheck rfl rfl) rfl rfl ?_
          refine d_q rfl (q_fieldAddr rfl Try.underlying45 rfl Try.sizeOf42 rfl rfl) rfl rfl ?_
          refine d_q rfl (q_loadC rfl Try.isAgg42 rfl (fun _ h => h.at 3 rfl) rfl) rfl rfl ?_
          refine d_q rfl (q_move rfl rfl) rfl rfl ?_
          refine d_q rfl (q_indexV x rfl Try.underlying42 Try.sizeOf3 rfl (fun _ h => h.rd 1 rfl) rfl rfl (by omega)) rfl rfl ?_
          refine d_q rfl (q_loadV x 0 rfl Try.isAgg3 rfl rfl (fun _ h => h.rd 1 rfl) (gd (by simp; omega)) rfl) rfl rfl ?_
          refine d_q rfl (q_max rfl rfl rfl) rfl rfl ?_
          refine d_q rfl (q_nilCheck rfl rfl) rfl rfl ?_
          refine d_q rfl (q_fieldAddr rfl Try.underlying45 rfl Try.sizeOf3 rfl rfl) rfl rfl ?_
          refine pull3 ?_
          refine d_t rfl ?_
          refine e_store rfl rfl Try.sizeOf3 rfl rfl rfl (Nat.le_of_ble_eq_true rfl) ?_
          refine d_nil ?_
          refine k_block ?_
          refine k_then ?_
          refine c_region _ rfl ?_
          refine l_q rfl (q_move rfl rfl) rfl rfl ?_
          refine l_q rfl (q_inc rfl rfl rfl (by omega)) rfl rfl ?_
          refine l_q rfl (q_assign rfl rfl) rfl rfl ?_
          refine l_nil ?_
          refine pull1 ?_
          refine pull2 ?_
          refine pull4 ?_
          refine pull3 ?_
          refine pull4 ?_
          exact k_round (i + 1) (by omega) (by omega) (Sub.cons rfl (Sub.cons rfl (Sub.cons rfl (Sub.cons rfl (Sub.nil))))) (fun _ h => by
                rw [hsa hik]
                rw [hg4, if_neg (show ¬ (0 : Int) > M.worst by omega)] at h
                simp only [List.set_set] at h
                exact h)
        · simp only [decide_eq_true_eq, decide_eq_false_iff_not, Bool.not_eq_true', Bool.not_eq_false'] at hk
          have hik : i ≠ kk := by omega
          have hxt := hxn hik
          have hsn := hse hik
          unfold stepM at hsn
          rw [if_neg hxt] at hsn
          have hl1 : (M.wt.set x (M.wt.getD x 0 + 1)).length = M.n := by simp [f2]
          refine c_false rfl ?_
          refine c_skip ?_
          refine k_then ?_
          refine c_draw [(0, some true), (1, some true), (2, some true), (3, some true), (4, some true), (5, some true), (6, some true), (7, some true), (8, some true), (9, some true), (10, some true), (11, some true), (12, some true), (13, some true), (14, some true), (15, none)] [15] [(_, some true), (_, some true), (_, some true), (_, some true), (_, some true), (_, some true), (_, some true), (_, some true), (_, some true), (_, some true), (_, some true), (_, some true), (_, some true), (_, some true), (_, some true), (_, none)] _ (blind_block (blind_then (blind_then (blind_block (blind_then blind_body))))) rfl (by kernel_rfl) (by kernel_rfl) rfl rfl rfl (by kernel_rfl) St.drawn (fun _ h => h) ?_
          refine d_q rfl (q_move rfl rfl) rfl rfl ?_
          refine d_q rfl (q_move rfl rfl) rfl rfl ?_
          refine d_q rfl (q_nilCheck rfl rfl) rfl rfl ?_
          refine d_q rfl (q_fieldAddr rfl Try.underlying45 rfl Try.sizeOf3 rfl rfl) rfl rfl ?_
          refine d_q rfl (q_loadC rfl Try.isAgg3 rfl (fun _ h => h.at 2 rfl) rfl) rfl rfl ?_
          refine d_q rfl (q_move rfl rfl) rfl rfl ?_
          refine d_q rfl (q_nilCheck rfl rfl) rfl rfl ?_
          refine d_q rfl (q_fieldAddr rfl Try.underlying45 rfl Try.sizeOf42 rfl rfl) rfl rfl ?_
          refine d_q rfl (q_loadC rfl Try.isAgg42 rfl (fun _ h => h.at 2 rfl) rfl) rfl rfl ?_
          refine d_q rfl (q_move rfl rfl) rfl rfl ?_
          refine d_q rfl (q_indexV x rfl Try.underlying42 Try.sizeOf3 rfl (fun _ h => h.rd 0 rfl) rfl rfl (by omega)) rfl rfl ?_
          refine d_q rfl (q_loadV x 0 rfl Try.isAgg3 rfl rfl (fun _ h => h.rd 0 rfl) (gd (by omega)) rfl) rfl rfl ?_
          refine d_q rfl (q_max rfl rfl rfl) rfl rfl ?_
          refine d_q rfl (q_nilCheck rfl rfl) rfl rfl ?_
          refine d_q rfl (q_fieldAddr rfl Try.underlying45 rfl Try.sizeOf3 rfl rfl) rfl rfl ?_
          refine pull2 ?_
          refine d_t rfl ?_
          refine e_store rfl rfl Try.sizeOf3 rfl rfl rfl (Nat.le_of_ble_eq_true rfl) ?_
          refine d_nil ?_
          refine k_block ?_
          refine k_then ?_
          refine c_region _ rfl ?_
          refine l_q rfl (q_move rfl rfl) rfl rfl ?_
          refine l_q rfl (q_inc rfl rfl rfl (by omega)) rfl rfl ?_
          refine l_q rfl (q_assign rfl rfl) rfl rfl ?_
          refine l_nil ?_
          refine pull4 ?_
          refine pull2 ?_
          refine pull4 ?_
          refine pull3 ?_
          refine pull4 ?_
          exact k_round (i + 1) (by omega) (by omega) (Sub.cons rfl (Sub.cons rfl (Sub.cons rfl (Sub.cons rfl (Sub.nil))))) (fun _ h => by
                rw [hsn]
                rw [hg3] at h
                exact h)
      · simp only [decide_eq_true_eq, decide_eq_false_iff_not, Bool.not_eq_true', Bool.not_eq_false'] at h1
        have hfin : i = (runM m).length := by omega
        subst hfin
        rw [hend]
        refine c_false rfl ?_
        refine c_exit ?_
        refine k_then_exit ?_
        refine k_then_exit ?_
        refine k_block_exit ?_
        refine k_then ?_
        refine c_seq ?_
        refine c_region _ rfl ?_
        refine l_q rfl (q_move rfl rfl) rfl rfl ?_
        refine l_q rfl (q_move rfl rfl) rfl rfl ?_
        refine l_q rfl (q_indexV kk rfl Try.underlying42 Try.sizeOf3 rfl (fun _ h => h.rd 0 rfl) rfl rfl (by omega)) rfl rfl ?_
        refine l_q rfl (q_loadV kk 0 rfl Try.isAgg3 rfl rfl (fun _ h => h.rd 0 rfl) (nints_get hkt) rfl) rfl rfl ?_
        refine l_q rfl (q_assign rfl rfl) rfl rfl ?_
        refine l_q rfl (q_assign rfl rfl) rfl rfl ?_
        refine l_nil ?_
        refine k_then ?_
        refine c_ret ?_
        refine r_many (rs := [.tmp 4, .tmp 5]) rfl rfl ?_
        exact fun _ h => ⟨(), by rw [show decide (runM m ≠ []) = true from by simpa using h00], trivial, h.drop⟩
    · simp only [decide_eq_true_eq, decide_eq_false_iff_not, Bool.not_eq_true', Bool.not_eq_false'] at hs
      rw [if_neg hs] at hrest
      refine c_false rfl ?_
      refine c_skip ?_
      refine k_then ?_
      refine c_seq ?_
      refine c_seq ?_
      refine c_region _ rfl ?_
      refine l_q rfl (q_assign rfl rfl) rfl rfl ?_
      refine l_nil ?_
      refine k_then ?_
      refine c_block ?_
      refine c_loop1 (fun (i : Nat) => [(0, .pointer (some ⟨r, 0, none⟩)), (6, v), (7, .int .i64 (kk : Int)), (8, .int .i64 (i : Int))]) (fun (i : Nat) => St w (dom (RT r vS vW vT m)) (rowE v 3 (encI .i64) (nints (runM m)) :: RT r vS vW vT (refR m t kk i))) (fun (i : Nat) => i ≤ (runM m).length) (fun (i : Nat) => (runM m).length - i) (0) (Nat.zero_le _) (Sub.cons rfl (Sub.cons rfl (Sub.consE rfl (by rw [hrest]) (Sub.cons rfl Sub.nil)))) (fun _ h => by rw [ref_zero]; exact h) ?_
      intro i hi
      refine c_seq ?_
      refine c_seq ?_
      refine c_region _ rfl ?_
      refine l_q rfl (q_move rfl rfl) rfl rfl ?_
      refine l_q rfl (q_move rfl rfl) rfl rfl ?_
      refine l_q rfl (q_lenV rfl Try.underlying42 rfl (fun _ h => h.rd 0 rfl)) rfl rfl ?_
      refine l_q rfl (q_lss rfl rfl rfl) rfl rfl ?_
      refine l_nil ?_
      refine k_then ?_
      refine Pre.caseB 28 rfl (fun h1 => ?_) (fun h1 => ?_)
      · simp only [decide_eq_true_eq, decide_eq_false_iff_not, Bool.not_eq_true', Bool.not_eq_false'] at h1
        have hi2 : i < (runM m).length := by omega
        obtain ⟨x, hg⟩ : ∃ x, (runM m)[i]? = some x := ⟨_, List.getElem?_eq_getElem hi2⟩
        have hg2 := nints_get hg
        have hx := runM_lt (List.mem_of_getElem? hg)
        obtain ⟨hmi, hni⟩ := ref_ok hm (t := t) (k := kk) hwl i
        have hse := ref_succ hkt hg
        have hsa := ref_at hkt hg
        have hxe := ref_eq hkt hg
        have hxn := ref_ne hkt hg
        generalize refR m t kk i = M at *
        have hwx := hmi.wt0 x (by omega)
        have hpx := hmi.pk0 x (by omega)
        have hw0 := hmi.w0
        have hxM : x < M.n := by omega
        have f1 := hmi.st
        have f2 := hmi.wt
        have f3 := hmi.pk
        refine c_true rfl ?_
        refine c_skip ?_
        refine k_then ?_
        refine c_seq ?_
        refine c_block ?_
        refine c_seq ?_
        refine c_region _ rfl ?_
        refine l_q rfl (q_move rfl rfl) rfl rfl ?_
        refine l_q rfl (q_move rfl rfl) rfl rfl ?_
        refine l_q rfl (q_indexV i rfl Try.underlying42 Try.sizeOf3 rfl (fun _ h => h.rd 0 rfl) rfl rfl (by omega)) rfl rfl ?_
        refine l_q rfl (q_loadV i 0 rfl Try.isAgg3 rfl rfl (fun _ h => h.rd 0 rfl) hg2 rfl) rfl rfl ?_
        refine l_q rfl (q_assign rfl rfl) rfl rfl ?_
        refine l_nil ?_
        refine k_then ?_
        refine c_seq ?_
        refine c_draw [(0, some true), (1, some true), (2, some true), (3, some true), (4, some true), (5, some true), (6, some true), (7, some true), (8, some true), (9, some true), (10, some true), (11, some true), (12, some true), (13, some true), (14, none)] [14] [(_, some true), (_, some true), (_, some true), (_, some true), (_, some true), (_, some true), (_, some true), (_, some true), (_, some true), (_, some true), (_, some true), (_, some true), (_, some true), (_, some true), (_, none)] _ (blind_then (blind_block (blind_then (blind_then (blind_block (blind_then blind_body)))))) rfl (by kernel_rfl) (by kernel_rfl) rfl rfl rfl (by kernel_rfl) St.drawn (fun _ h => h) ?_
        refine d_q rfl (q_move rfl rfl) rfl rfl ?_
        refine d_q rfl (q_nilCheck rfl rfl) rfl rfl ?_
        refine d_q rfl (q_fieldAddr rfl Try.underlying45 rfl Try.sizeOf42 rfl rfl) rfl rfl ?_
        refine d_q rfl (q_loadC rfl Try.isAgg42 rfl (fun _ h => h.at 1 rfl) rfl) rfl rfl ?_
        refine d_q rfl (q_move rfl rfl) rfl rfl ?_
        refine d_q rfl (q_move rfl rfl) rfl rfl ?_
        refine d_q rfl (q_nilCheck rfl rfl) rfl rfl ?_
        refine d_q rfl (q_fieldAddr rfl Try.underlying45 rfl Try.sizeOf42 rfl rfl) rfl rfl ?_
        refine d_q rfl (q_loadC rfl Try.isAgg42 rfl (fun _ h => h.at 1 rfl) rfl) rfl rfl ?_
        refine d_q rfl (q_move rfl rfl) rfl rfl ?_
        refine d_q rfl (q_indexV x rfl Try.underlying42 Try.sizeOf3 rfl (fun _ h => h.rd 3 rfl) rfl rfl (by omega)) rfl rfl ?_
        refine d_q rfl (q_loadV x 0 rfl Try.isAgg3 rfl rfl (fun _ h => h.rd 3 rfl) (gd (by omega)) rfl) rfl rfl ?_
        refine d_q rfl (q_add64 rfl rfl rfl (by omega)) rfl rfl ?_
        refine d_q rfl (q_indexV x rfl Try.underlying42 Try.sizeOf3 rfl (fun _ h => h.rd 3 rfl) rfl rfl (by omega)) rfl rfl ?_
        refine pull3 ?_
        refine d_t rfl ?_
        refine e_storeV x 0 (M.wt.getD x 0 + 1) rfl rfl Try.sizeOf3 rfl rfl rfl (gd (by omega)) (by decide) rfl ?_
        refine d_nil ?_
        refine k_then ?_
        refine c_seq ?_
        refine c_seq ?_
        refine c_region _ rfl ?_
        refine l_q rfl (q_move rfl rfl) rfl rfl ?_
        refine l_q rfl (q_move rfl rfl) rfl rfl ?_
        refine l_q rfl (q_eql rfl rfl rfl) rfl rfl ?_
        refine l_nil ?_
        refine k_then ?_
        have hg3 : (M.wt.set x (M.wt.getD x 0 + 1)).getD x 0 = M.wt.getD x 0 + 1 := by rw [getD_set, if_pos ⟨rfl, by omega⟩]
        refine Pre.caseB 51 rfl (fun hk => ?_) (fun hk => ?_)
        · simp only [decide_eq_true_eq, decide_eq_false_iff_not, Bool.not_eq_true', Bool.not_eq_false'] at hk
          have hik : i = kk := by omega
          obtain rfl := hxe hik
          have hl1 : (M.wt.set x (M.wt.getD x 0 + 1)).length = M.n := by simp [f2]
          refine c_true rfl ?_
          refine c_seq ?_
          refine c_region _ rfl ?_
          refine l_q rfl (q_move rfl rfl) rfl rfl ?_
          refine l_q rfl (q_nilCheck rfl rfl) rfl rfl ?_
          refine l_q rfl (q_fieldAddr rfl Try.underlying45 rfl Try.sizeOf42 rfl rfl) rfl rfl ?_
          refine l_q rfl (q_loadC rfl Try.isAgg42 rfl (fun _ h => h.at 2 rfl) rfl) rfl rfl ?_
          refine l_q rfl (q_move rfl rfl) rfl rfl ?_
          refine l_q rfl (q_indexV x rfl Try.underlying42 Try.sizeOf3 rfl (fun _ h => h.rd 0 rfl) rfl rfl (by omega)) rfl rfl ?_
          refine l_e rfl ?_
          refine e_storeV x 0 (0) rfl rfl Try.sizeOf3 rfl rfl rfl (gd (by omega)) (by decide) rfl ?_
          refine l_nil ?_
          refine k_then ?_
          refine c_draw [(0, some true), (1, some true), (2, some true), (3, some true), (4, some true), (5, some true), (6, some true), (7, some true), (8, some true), (9, some true), (10, some true), (11, some true), (12, some true), (13, some true), (14, none)] [14] [(_, some true), (_, some true), (_, some true), (_, some true), (_, some true), (_, some true), (_, some true), (_, some true), (_, some true), (_, some true), (_, some true), (_, some true), (_, some true), (_, some true), (_, none)] _ (blind_then (blind_block (blind_then (blind_then (blind_block (blind_then blind_body)))))) rfl (by kernel_rfl) (by kernel_rfl) rfl rfl rfl (by kernel_rfl) St.drawn (fun _ h => h) ?_
          refine d_q rfl (q_move rfl rfl) rfl rfl ?_
          refine d_q rfl (q_nilCheck rfl rfl) rfl rfl ?_
          refine d_q rfl (q_fieldAddr rfl Try.underlying45 rfl Try.sizeOf42 rfl rfl) rfl rfl ?_
          refine d_q rfl (q_loadC rfl Try.isAgg42 rfl (fun _ h => h.at 2 rfl) rfl) rfl rfl ?_
          refine d_q rfl (q_move rfl rfl) rfl rfl ?_
          refine d_q rfl (q_move rfl rfl) rfl rfl ?_
          refine d_q rfl (q_nilCheck rfl rfl) rfl rfl ?_
          refine d_q rfl (q_fieldAddr rfl Try.underlying45 rfl Try.sizeOf42 rfl rfl) rfl rfl ?_
          refine d_q rfl (q_loadC rfl Try.isAgg42 rfl (fun _ h => h.at 2 rfl) rfl) rfl rfl ?_
          refine d_q rfl (q_move rfl rfl) rfl rfl ?_
          refine d_q rfl (q_indexV x rfl Try.underlying42 Try.sizeOf3 rfl (fun _ h => h.rd 4 rfl) rfl rfl (by omega)) rfl rfl ?_
          refine d_q rfl (q_loadV x 0 rfl Try.isAgg3 rfl rfl (fun _ h => h.rd 4 rfl) (gd (by omega)) rfl) rfl rfl ?_
          refine d_q rfl (q_add64 rfl rfl rfl (by omega)) rfl rfl ?_
          refine d_q rfl (q_indexV x rfl Try.underlying42 Try.sizeOf3 rfl (fun _ h => h.rd 4 rfl) rfl rfl (by omega)) rfl rfl ?_
          have hl2 : ((M.wt.set x (M.wt.getD x 0 + 1)).set x 0).length = M.n := by simp [f2]
          have hg4 : ((M.wt.set x (M.wt.getD x 0 + 1)).set x 0).getD x 0 = 0 := by rw [getD_set, if_pos ⟨rfl, by omega⟩]
          refine pull4 ?_
          refine d_t rfl ?_
          refine e_storeV x 0 (M.pk.getD x 0 + 1) rfl rfl Try.sizeOf3 rfl rfl rfl (gd (by omega)) (by decide) rfl ?_
          refine d_nil ?_
          refine k_then ?_
          refine c_draw [(0, some true), (1, some true), (2, some true), (3, some true), (4, some true), (5, some true), (6, some true), (7, some true), (8, some true), (9, some true), (10, some true), (11, some true), (12, some true), (13, some true), (14, some true), (15, none)] [15] [(_, some true), (_, some true), (_, some true), (_, some true), (_, some true), (_, some true), (_, some true), (_, some true), (_, some true), (_, some true), (_, some true), (_, some true), (_, some true), (_, some true), (_, some true), (_, none)] _ (blind_block (blind_then (blind_then (blind_block (blind_then blind_body))))) rfl (by kernel_rfl) (by kernel_rfl) rfl rfl rfl (by kernel_rfl) St.drawn (fun _ h => h) ?_
          refine d_q rfl (q_move rfl rfl) rfl rfl ?_
          refine d_q rfl (q_move rfl rfl) rfl rfl ?_
          refine d_q rfl (q_nilCheck rfl rfl) rfl rfl ?_
          refine d_q rfl (q_fieldAddr rfl Try.underlying45 rfl Try.sizeOf3 rfl rfl) rfl rfl ?_
          refine d_q rfl (q_loadC rfl Try.isAgg3 rfl (fun _ h => h.at 3 rfl) rfl) rfl rfl ?_
          refine d_q rfl (q_move rfl rfl) rfl rfl ?_
          refine d_q rfl (q_nilCheck rfl rfl) rfl rfl ?_
          refine d_q rfl (q_fieldAddr rfl Try.underlying45 rfl Try.sizeOf42 rfl rfl) rfl rfl ?_
          refine d_q rfl (q_loadC rfl Try.isAgg42 rfl (fun _ h => h.at 3 rfl) rfl) rfl rfl ?_
          refine d_q rfl (q_move rfl rfl) rfl rfl ?_
          refine d_q rfl (q_indexV x rfl Try.underlying42 Try.sizeOf3 rfl (fun _ h => h.rd 1 rfl) rfl rfl (by omega)) rfl rfl ?_
          refine d_q rfl (q_loadV x 0 rfl Try.isAgg3 rfl rfl (fun _ h => h.rd 1 rfl) (gd (by simp; omega)) rfl) rfl rfl ?_
          refine d_q rfl (q_max rfl rfl rfl) rfl rfl ?_
          refine d_q rfl (q_nilCheck rfl rfl) rfl rfl ?_
          refine d_q rfl (q_fieldAddr rfl Try.underlying45 rfl Try.sizeOf3 rfl rfl) rfl rfl ?_
          refine pull3 ?_
          refine d_t rfl ?_
          refine e_store rfl rfl Try.sizeOf3 rfl rfl rfl (Nat.le_of_ble_eq_true rfl) ?_
          refine d_nil ?_
          refine k_block ?_
          refine k_then ?_
          refine c_region _ rfl ?_
          refine l_q rfl (q_move rfl rfl) rfl rfl ?_
          refine l_q rfl (q_inc rfl rfl rfl (by omega)) rfl rfl ?_
          refine l_q rfl (q_assign rfl rfl) rfl rfl ?_
          refine l_nil ?_
          refine pull1 ?_
          refine pull2 ?_
          refine pull4 ?_
          refine pull3 ?_
          refine pull4 ?_
          exact k_round (i + 1) (by omega) (by omega) (Sub.cons rfl (Sub.cons rfl (Sub.cons rfl (Sub.cons rfl (Sub.nil))))) (fun _ h => by
                rw [hsa hik]
                rw [hg4, if_neg (show ¬ (0 : Int) > M.worst by omega)] at h
                simp only [List.set_set] at h
                exact h)
        · simp only [decide_eq_true_eq, decide_eq_false_iff_not, Bool.not_eq_true', Bool.not_eq_false'] at hk
          have hik : i ≠ kk := by omega
          have hxt := hxn hik
          have hsn := hse hik
          unfold stepM at hsn
          rw [if_neg hxt] at hsn
          have hl1 : (M.wt.set x (M.wt.getD x 0 + 1)).length = M.n := by simp [f2]
          refine c_false rfl ?_
          refine c_skip ?_
          refine k_then ?_
          refine c_draw [(0, some true), (1, some true), (2, some true), (3, some true), (4, some true), (5, some true), (6, some true), (7, some true), (8, some true), (9, some true), (10, some true), (11, some true), (12, some true), (13, some true), (14, some true), (15, none)] [15] [(_, some true), (_, some true), (_, some true), (_, some true), (_, some true), (_, some true), (_, some true), (_, some true), (_, some true), (_, some true), (_, some true), (_, some true), (_, some true), (_, some true), (_, some true), (_, none)] _ (blind_block (blind_then (blind_then (blind_block (blind_then blind_body))))) rfl (by kernel_rfl) (by kernel_rfl) rfl rfl rfl (by kernel_rfl) St.drawn (fun _ h => h) ?_
          refine d_q rfl (q_move rfl rfl) rfl rfl ?_
          refine d_q rfl (q_move rfl rfl) rfl rfl ?_
          refine d_q rfl (q_nilCheck rfl rfl) rfl rfl ?_
          refine d_q rfl (q_fieldAddr rfl Try.underlying45 rfl Try.sizeOf3 rfl rfl) rfl rfl ?_
          refine d_q rfl (q_loadC rfl Try.isAgg3 rfl (fun _ h => h.at 2 rfl) rfl) rfl rfl ?_
          refine d_q rfl (q_move rfl rfl) rfl rfl ?_
          refine d_q rfl (q_nilCheck rfl rfl) rfl rfl ?_
          refine d_q rfl (q_fieldAddr rfl Try.underlying45 rfl Try.sizeOf42 rfl rfl) rfl rfl ?_
          refine d_q rfl (q_loadC rfl Try.isAgg42 rfl (fun _ h => h.at 2 rfl) rfl) rfl rfl ?_
          refine d_q rfl (q_move rfl rfl) rfl rfl ?_
          refine d_q rfl (q_indexV x rfl Try.underlying42 Try.sizeOf3 rfl (fun _ h => h.rd 0 rfl) rfl rfl (by omega)) rfl rfl ?_
          refine d_q rfl (q_loadV x 0 rfl Try.isAgg3 rfl rfl (fun _ h => h.rd 0 rfl) (gd (by omega)) rfl) rfl rfl ?_
          refine d_q rfl (q_max rfl rfl rfl) rfl rfl ?_
          refine d_q rfl (q_nilCheck rfl rfl) rfl rfl ?_
          refine d_q rfl (q_fieldAddr rfl Try.underlying45 rfl Try.sizeOf3 rfl rfl) rfl rfl ?_
          refine pull2 ?_
          refine d_t rfl ?_
          refine e_store rfl rfl Try.sizeOf3 rfl rfl rfl (Nat.le_of_ble_eq_true rfl) ?_
          refine d_nil ?_
          refine k_block ?_
          refine k_then ?_
          refine c_region _ rfl ?_
          refine l_q rfl (q_move rfl rfl) rfl rfl ?_
          refine l_q rfl (q_inc rfl rfl rfl (by omega)) rfl rfl ?_
          refine l_q rfl (q_assign rfl rfl) rfl rfl ?_
          refine l_nil ?_
          refine pull4 ?_
          refine pull2 ?_
          refine pull4 ?_
          refine pull3 ?_
          refine pull4 ?_
          exact k_round (i + 1) (by omega) (by omega) (Sub.cons rfl (Sub.cons rfl (Sub.cons rfl (Sub.cons rfl (Sub.nil))))) (fun _ h => by
                rw [hsn]
                rw [hg3] at h
                exact h)
      · simp only [decide_eq_true_eq, decide_eq_false_iff_not, Bool.not_eq_true', Bool.not_eq_false'] at h1
        have hfin : i = (runM m).length := by omega
        subst hfin
        rw [hend]
        refine c_false rfl ?_
        refine c_exit ?_
        refine k_then_exit ?_
        refine k_then_exit ?_
        refine k_block_exit ?_
        refine k_then ?_
        refine c_seq ?_
        refine c_region _ rfl ?_
        refine l_q rfl (q_move rfl rfl) rfl rfl ?_
        refine l_q rfl (q_move rfl rfl) rfl rfl ?_
        refine l_q rfl (q_indexV kk rfl Try.underlying42 Try.sizeOf3 rfl (fun _ h => h.rd 0 rfl) rfl rfl (by omega)) rfl rfl ?_
        refine l_q rfl (q_loadV kk 0 rfl Try.isAgg3 rfl rfl (fun _ h => h.rd 0 rfl) (nints_get hkt) rfl) rfl rfl ?_
        refine l_q rfl (q_assign rfl rfl) rfl rfl ?_
        refine l_q rfl (q_assign rfl rfl) rfl rfl ?_
        refine l_nil ?_
        refine k_then ?_
        refine c_ret ?_
        refine r_many (rs := [.tmp 4, .tmp 5]) rfl rfl ?_
        exact fun _ h => ⟨(), by rw [show decide (runM m ≠ []) = true from by simpa using h00], trivial, h.drop⟩
end Go.Proofs.Ytjanmpghcigigaa
