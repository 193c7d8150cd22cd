/- HistOrder, walked -/
import Derived.Test.YthfdmeikpbkpaaaT
import Derived.Test.YthfdmeikpbkpaaaU
set_option linter.unusedVariables false
set_option linter.unusedSimpArgs false
namespace Go.Proofs.Ythfdmeikpbkpaaa
open Go.Sep Go.RowKit

theorem rr_ops {b : OpsR} {m : Nat} {w : World} (h : RdV w b.vo encSv (b.vs m)) (h0 : RdV w b.q0.v Op.enc b.o0) (h1 : RdV w b.q1.v Op.enc b.o1) (h2 : RdV w b.q2.v Op.enc b.o2) (h3 : RdV w b.q3.v Op.enc b.o3) : RR w b.vo (b.vs m) (b.ops m) := by
  refine ⟨h, by unfold OpsR.vs OpsR.ops; rw [List.length_take, List.length_take]; rfl, fun i s o g1 g2 => ?_⟩
  unfold OpsR.vs at g1
  unfold OpsR.ops at g2
  rw [List.getElem?_take] at g1 g2
  split at g1
  · rename_i hi
    rw [if_pos hi] at g2
    match i with
    | 0 => cases g1; cases g2; exact h0
    | 1 => cases g1; cases g2; exact h1
    | 2 => cases g1; cases g2; exact h2
    | 3 => cases g1; cases g2; exact h3
    | i + 4 => simp at g1
  · cases g1
theorem ops_len (b : OpsR) (m : Nat) : (b.ops m).length ≤ 65536 := by unfold OpsR.ops; have := List.length_take_le m [b.o0, b.o1, b.o2, b.o3]; rw [List.length_take]; show min m 4 ≤ _; omega
theorem ops_each {b : OpsR} (h : b.o0.length ≤ 96 ∧ b.o1.length ≤ 96 ∧ b.o2.length ≤ 96 ∧ b.o3.length ≤ 96) (m : Nat) : ∀ o ∈ b.ops m, o.length ≤ 65536 := fun o ho => by
  have := List.mem_of_mem_take ho
  simp only [List.mem_cons, List.not_mem_nil, or_false] at this
  rcases this with rfl | rfl | rfl | rfl <;> omega

set_option maxRecDepth 100000 in
set_option maxHeartbeats 1000000 in
theorem order_spec {v1 v2 : Value} (n : Int) (l1 l2 : List Int) : Con Try.prog 6 [.int .i64 n, v1, v2] (fun w => RdV w v1 (encI .i64) l1 ∧ RdV w v2 (encI .i64) l2) [] (fun _ : Unit => .bool true) (fun _ => True) (fun _ => []) := by
  intro w hE hH
  obtain ⟨hl1, hl2⟩ := hE
  refine enter (n := 161) (vs := [.int .i64 n, v1, v2]) (St w [] []) Try.func6 rfl rfl rfl (St.init hH) ?_
  refine c_seq ?_
  refine c_region _ rfl ?_
  refine l_q rfl (q_assign rfl rfl) rfl rfl ?_
  refine l_nil ?_
  refine k_then ?_
  refine c_seq ?_
  refine c_region _ rfl ?_
  refine l_q rfl (q_move rfl rfl) rfl rfl ?_
  refine l_q rfl (q_move rfl rfl) rfl rfl ?_
  refine l_e rfl ?_
  refine e_call_00 (place_spec n 4 (by decide) (by decide)) rfl rfl rfl Try.call9 rfl (fun _ _ => trivial) ?_
  intro _ _
  refine l_q rfl (q_add64 rfl rfl rfl (by omega)) rfl rfl ?_
  obtain ⟨m, hm, h1m, hm4⟩ : ∃ m : Nat, 1 + n % 4 = (m : Int) ∧ 1 ≤ m ∧ m ≤ 4 := ⟨(1 + n % 4).toNat, by omega, by omega, by omega⟩
  refine Pre.setV (t := 16) (c := .int .i64 (m : Int)) rfl (by rw [hm]) ?_
  refine l_e rfl ?_
  refine e_call_05 (ops_ex l1 m h1m hm4) rfl rfl rfl Try.call8 rfl (fun _ h => hl1.keep h (by simp [dom])) ?_
  intro b hb
  refine l_q rfl (q_assign rfl rfl) rfl rfl ?_
  refine l_nil ?_
  refine k_then ?_
  refine c_seq ?_
  refine c_region _ rfl ?_
  refine l_q rfl (q_move rfl rfl) rfl rfl ?_
  refine l_q rfl (q_move rfl rfl) rfl rfl ?_
  have hO := ops_each hb m
  have hol := ops_len b m
  have ho4 : (b.ops m).length ≤ 4 := by unfold OpsR.ops; rw [List.length_take]; show min m 4 ≤ _; omega
  refine l_e rfl ?_
  refine e_call_01 (told_ex l2 (b.vs m) (b.ops m) hol hO) rfl rfl rfl Try.call10 rfl (fun _ h => ⟨hl2.keep h (by simp [dom]), (rr_ops (h.rd 0 rfl) (h.rd 1 rfl) (h.rd 2 rfl) (h.rd 3 rfl) (h.rd 4 rfl))⟩) ?_
  intro e he
  refine l_q rfl (q_assign rfl rfl) rfl rfl ?_
  refine l_nil ?_
  refine k_then ?_
  refine c_seq ?_
  refine c_region _ rfl ?_
  refine l_q rfl (q_move rfl rfl) rfl rfl ?_
  refine l_q rfl (q_move rfl rfl) rfl rfl ?_
  have hn : e.2.length ≤ 65536 := by omega
  obtain ⟨R, hR⟩ : ∃ R, R = (if (chk (b.ops m) e.2).isSome = true then callsOf (b.ops m) e.2 e.2.length else []) := ⟨_, rfl⟩
  have hL : Lies (b.ops m).length R := by rw [hR]; exact lies_calls hn
  have hRl : R.length ≤ e.2.length := by
    rw [hR]; split
    · exact calls_len _ _ _
    · exact Nat.zero_le _
  have hw1 := hL.wid_le
  have hw2 := hL.pen_le
  refine l_e rfl ?_
  refine e_call_01 (calls_spec e.2 (b.vs m) (b.ops m) hn hol hO) rfl rfl rfl Try.call11 rfl (fun _ h => ⟨h.rd 0 rfl, (rr_ops (h.rd 1 rfl) (h.rd 2 rfl) (h.rd 3 rfl) (h.rd 4 rfl) (h.rd 5 rfl))⟩) ?_
  intro va _
  rw [← hR]
  refine l_q rfl (q_assign rfl rfl) rfl rfl ?_
  refine l_nil ?_
  refine k_then ?_
  refine c_seq ?_
  refine c_seq ?_
  refine c_region _ rfl ?_
  refine l_q rfl (q_move rfl rfl) rfl rfl ?_
  refine l_q rfl (q_lenV rfl Try.underlying28 rfl (fun _ h => h.rd 0 rfl)) rfl rfl ?_
  refine l_q rfl (q_move rfl rfl) rfl rfl ?_
  refine l_q rfl (q_lenV rfl Try.underlying26 rfl (fun _ h => h.rd 1 rfl)) rfl rfl ?_
  refine l_q rfl (q_gtr rfl rfl rfl) rfl rfl ?_
  refine l_q rfl (q_move rfl rfl) rfl rfl ?_
  have hvs : (b.vs m).length = (b.ops m).length := by unfold OpsR.vs OpsR.ops; rw [List.length_take, List.length_take]; rfl
  refine Pre.setB (t := 29) (c := false) rfl (decide_eq_false (by omega)) ?_
  refine l_q rfl (q_move rfl rfl) rfl rfl ?_
  refine l_e rfl ?_
  refine e_call_00 (wid_spec R (by omega)) rfl rfl rfl Try.call16 rfl (fun _ h => h.rd 0 rfl) ?_
  intro _ _
  refine l_q rfl (q_move rfl rfl) rfl rfl ?_
  refine l_q rfl (q_lenV rfl Try.underlying23 rfl (fun _ h => h.rd 2 rfl)) rfl rfl ?_
  refine l_q rfl (q_gtr rfl rfl rfl) rfl rfl ?_
  refine l_q rfl (q_pick_f rfl rfl rfl) rfl rfl ?_
  refine l_q rfl (q_move rfl rfl) rfl rfl ?_
  refine Pre.setB (t := 36) (c := false) rfl (decide_eq_false (by omega)) ?_
  refine l_q rfl (q_move rfl rfl) rfl rfl ?_
  refine l_e rfl ?_
  refine e_call_00 (pen_spec R (by omega)) rfl rfl rfl Try.call18 rfl (fun _ h => h.rd 0 rfl) ?_
  intro _ _
  refine l_q rfl (q_move rfl rfl) rfl rfl ?_
  refine l_e rfl ?_
  refine e_call_00 (wid_spec R (by omega)) rfl rfl rfl Try.call16 rfl (fun _ h => h.rd 0 rfl) ?_
  intro _ _
  refine l_q rfl (q_gtr rfl rfl rfl) rfl rfl ?_
  refine l_q rfl (q_pick_f rfl rfl rfl) rfl rfl ?_
  refine l_nil ?_
  refine k_then ?_
  refine Pre.setB (t := 42) (c := false) rfl (decide_eq_false (by omega)) ?_
  refine c_false rfl ?_
  refine c_skip ?_
  refine k_then ?_
  refine c_seq ?_
  refine c_seq ?_
  refine c_region _ rfl ?_
  refine l_q rfl (q_assign rfl rfl) rfl rfl ?_
  refine l_nil ?_
  refine k_then ?_
  refine c_block ?_
  refine pull2 ?_
  refine drop0 ?_
  refine pull2 ?_
  refine drop0 ?_
  refine pull2 ?_
  refine drop0 ?_
  refine pull2 ?_
  refine drop0 ?_
  refine pull2 ?_
  refine drop0 ?_
  refine pull1 ?_
  refine drop0 ?_
  refine c_loop1 (fun (i : Nat) => [(9, va), (10, .int .i64 (i : Int))]) (fun (i : Nat) => St w [] [rowE va 47 Ca.enc R]) (fun (i : Nat) => i ≤ R.length) (fun (i : Nat) => R.length - i) (0) (Nat.zero_le _) (Sub.cons rfl (Sub.cons rfl (Sub.nil))) (fun _ h => h) ?_
  intro i hi
  refine c_seq ?_
  refine c_seq ?_
  refine c_region _ rfl ?_
  refine l_q rfl (q_move rfl rfl) rfl rfl ?_
  refine l_q rfl (q_move rfl rfl) rfl rfl ?_
  refine l_q rfl (q_lenV rfl Try.underlying28 rfl (fun _ h => h.rd 0 rfl)) rfl rfl ?_
  refine l_q rfl (q_lss rfl rfl rfl) rfl rfl ?_
  refine l_q rfl (q_move rfl rfl) rfl rfl ?_
  refine Pre.caseB 47 rfl (fun gi => ?_) (fun gi => ?_)
  · simp only [decide_eq_true_eq, decide_eq_false_iff_not, Bool.not_eq_true', Bool.not_eq_false'] at gi
    refine l_q rfl (q_move rfl rfl) rfl rfl ?_
    refine l_q rfl (q_lss rfl rfl rfl) rfl rfl ?_
    refine l_q rfl (q_pick_t rfl rfl rfl) rfl rfl ?_
    refine l_nil ?_
    refine k_then ?_
    refine Pre.caseB 50 rfl (fun fi => ?_) (fun fi => ?_)
    · simp only [decide_eq_true_eq, decide_eq_false_iff_not, Bool.not_eq_true', Bool.not_eq_false'] at fi
      obtain ⟨x, hx⟩ : ∃ x, R[i]? = some x := ⟨_, List.getElem?_eq_getElem (by omega)⟩
      refine c_true rfl ?_
      refine c_skip ?_
      refine k_then ?_
      refine c_seq ?_
      refine c_block ?_
      refine c_seq ?_
      refine c_region _ rfl ?_
      refine l_q rfl (q_assign rfl rfl) rfl rfl ?_
      refine l_nil ?_
      refine k_then ?_
      refine c_block ?_
      refine c_loop1 (fun (j : Nat) => [(9, va), (10, .int .i64 (i : Int)), (11, .int .i64 (j : Int))]) (fun (j : Nat) => St w [] [rowE va 47 Ca.enc R]) (fun (j : Nat) => j ≤ R.length) (fun (j : Nat) => R.length - j) (0) (Nat.zero_le _) (Sub.cons rfl (Sub.cons rfl (Sub.cons rfl (Sub.nil)))) (fun _ h => h) ?_
      intro j hj
      refine c_seq ?_
      refine c_seq ?_
      refine c_region _ rfl ?_
      refine l_q rfl (q_move rfl rfl) rfl rfl ?_
      refine l_q rfl (q_move rfl rfl) rfl rfl ?_
      refine l_q rfl (q_lenV rfl Try.underlying28 rfl (fun _ h => h.rd 0 rfl)) rfl rfl ?_
      refine l_q rfl (q_lss rfl rfl rfl) rfl rfl ?_
      refine l_q rfl (q_move rfl rfl) rfl rfl ?_
      refine Pre.caseB 57 rfl (fun gj => ?_) (fun gj => ?_)
      · simp only [decide_eq_true_eq, decide_eq_false_iff_not, Bool.not_eq_true', Bool.not_eq_false'] at gj
        refine l_q rfl (q_move rfl rfl) rfl rfl ?_
        refine l_q rfl (q_lss rfl rfl rfl) rfl rfl ?_
        refine l_q rfl (q_pick_t rfl rfl rfl) rfl rfl ?_
        refine l_nil ?_
        refine k_then ?_
        refine Pre.caseB 60 rfl (fun fj => ?_) (fun fj => ?_)
        · simp only [decide_eq_true_eq, decide_eq_false_iff_not, Bool.not_eq_true', Bool.not_eq_false'] at fj
          obtain ⟨y, hy⟩ : ∃ y, R[j]? = some y := ⟨_, List.getElem?_eq_getElem (by omega)⟩
          refine c_true rfl ?_
          refine c_skip ?_
          refine k_then ?_
          refine c_seq ?_
          refine c_block ?_
          refine c_seq ?_
          refine c_seq ?_
          refine c_meet1 (fun (_u : Unit) => [(9, va), (10, .int .i64 (i : Int)), (11, .int .i64 (j : Int)), (117, .bool false)]) (fun (_u : Unit) => St w [] [rowE va 47 Ca.enc R]) (fun (_u : Unit) => True) ?_ ?_
          · refine c_draw [(0, some true), (1, some true), (2, some true), (3, some true), (4, some true), (5, some true), (6, some true), (7, some true), (8, some false), (9, some true), (10, some true), (11, some true), (12, some true), (13, some true), (14, some true), (15, some true), (16, some true), (17, some true), (18, some true), (19, some true), (20, some true), (21, some true), (22, some false), (23, some true), (24, some true), (25, some true), (26, some true), (27, some true), (28, some true), (29, some true), (30, some true), (31, some true), (32, some true), (33, some true), (34, some true), (35, some true), (36, some true), (37, some true), (38, some true), (39, some true), (40, some true), (41, some true), (42, some true), (43, some true), (44, some true), (45, some true), (46, some true), (47, some true), (48, some true), (49, some true), (50, some true), (51, some false), (52, some true), (53, some true), (54, some true)] [] [(_, some true), (_, some true), (_, some true), (_, some true), (_, some true), (_, some true), (_, some true), (_, some true), (_, some false), (_, some true), (_, some true), (_, some true), (_, some true), (_, some true), (_, some true), (_, some true), (_, some true), (_, some true), (_, some true), (_, some true), (_, some true), (_, some true), (_, some false), (_, some true), (_, some true), (_, some true), (_, some true), (_, some true), (_, some true), (_, some true), (_, some true), (_, some true), (_, some true), (_, some true), (_, some true), (_, some true), (_, some true), (_, some true), (_, some true), (_, some true), (_, some true), (_, some true), (_, some true), (_, some true), (_, some true), (_, some true), (_, some true), (_, some true), (_, some true), (_, some true), (_, some true), (_, some false), (_, some true), (_, some true), (_, some true)] (fun w2 => RdV w2 va Ca.enc R) (blind_then (blind_then (blind_block (blind_then (blind_then (blind_block (blind_block (blind_then (blind_then (blind_block (blind_then blind_body))))))))))) rfl (by kernel_rfl) (by kernel_rfl) rfl rfl rfl (by kernel_rfl) St.drawn (fun _ h => h.rd 0 rfl) ?_
            refine d_q rfl (q_move rfl rfl) rfl rfl ?_
            refine d_q rfl (q_move rfl rfl) rfl rfl ?_
            refine d_q rfl (q_indexV i rfl Try.underlying28 Try.sizeOf47 rfl (fun _ h => h) rfl rfl (by omega)) rfl rfl ?_
            refine d_q rfl (q_loadVAgg i rfl Try.isAgg47 Try.sizeOf47 rfl rfl (fun _ h => h) hx) rfl rfl ?_
            refine d_q rfl (q_move rfl rfl) rfl rfl ?_
            refine d_q rfl (q_move rfl rfl) rfl rfl ?_
            refine d_q rfl (q_indexV j rfl Try.underlying28 Try.sizeOf47 rfl (fun _ h => h) rfl rfl (by omega)) rfl rfl ?_
            refine d_q rfl (q_loadVAgg j rfl Try.isAgg47 Try.sizeOf47 rfl rfl (fun _ h => h) hy) rfl rfl ?_
            refine d_e rfl ?_
            refine e_call_00 (bef_spec x y) rfl rfl rfl Try.call21 rfl (fun _ _ => trivial) ?_
            intro _ _
            refine d_held (fun _ h => h.rd 0 rfl) ?_
            refine d_q rfl (q_move rfl rfl) rfl rfl ?_
            refine Pre.caseB 72 rfl (fun h1 => ?_) (fun h1 => ?_)
            · obtain ⟨h5, h6⟩ := hL.fwd hx hy h1
              refine d_q rfl (q_move rfl rfl) rfl rfl ?_
              refine d_q rfl (q_move rfl rfl) rfl rfl ?_
              refine d_q rfl (q_geq rfl rfl rfl) rfl rfl ?_
              refine d_q rfl (q_move rfl rfl) rfl rfl ?_
              refine Pre.setB (t := 76) (c := false) rfl (decide_eq_false (by omega)) ?_
              refine d_q rfl (q_move rfl rfl) rfl rfl ?_
              refine d_q rfl (q_move rfl rfl) rfl rfl ?_
              refine d_q rfl (q_indexV j rfl Try.underlying28 Try.sizeOf47 rfl (fun _ h => h) rfl rfl (by omega)) rfl rfl ?_
              refine d_q rfl (q_loadVAgg j rfl Try.isAgg47 Try.sizeOf47 rfl rfl (fun _ h => h) hy) rfl rfl ?_
              refine d_q rfl (q_move rfl rfl) rfl rfl ?_
              refine d_q rfl (q_move rfl rfl) rfl rfl ?_
              refine d_q rfl (q_indexV i rfl Try.underlying28 Try.sizeOf47 rfl (fun _ h => h) rfl rfl (by omega)) rfl rfl ?_
              refine d_q rfl (q_loadVAgg i rfl Try.isAgg47 Try.sizeOf47 rfl rfl (fun _ h => h) hx) rfl rfl ?_
              refine d_e rfl ?_
              refine e_call_00 (bef_spec y x) rfl rfl rfl Try.call21 rfl (fun _ _ => trivial) ?_
              intro _ _
              refine d_held (fun _ h => h.rd 0 rfl) ?_
              refine d_q rfl (q_pick_f rfl rfl rfl) rfl rfl ?_
              refine d_q rfl (q_pick_t rfl rfl rfl) rfl rfl ?_
              refine d_q rfl (q_move rfl rfl) rfl rfl ?_
              refine Pre.setB (t := 88) (c := false) rfl (by rw [h6]) ?_
              refine d_q rfl (q_move rfl rfl) rfl rfl ?_
              refine d_q rfl (q_move rfl rfl) rfl rfl ?_
              refine d_q rfl (q_indexV i rfl Try.underlying28 Try.sizeOf47 rfl (fun _ h => h) rfl rfl (by omega)) rfl rfl ?_
              refine d_q rfl (q_fieldAddr rfl Try.underlying47 rfl Try.sizeOf3 rfl rfl) rfl rfl ?_
              refine d_q rfl (q_loadV i 0 rfl Try.isAgg3 rfl rfl (fun _ h => h) hx rfl) rfl rfl ?_
              refine d_q rfl (q_move rfl rfl) rfl rfl ?_
              refine d_q rfl (q_move rfl rfl) rfl rfl ?_
              refine d_q rfl (q_indexV j rfl Try.underlying28 Try.sizeOf47 rfl (fun _ h => h) rfl rfl (by omega)) rfl rfl ?_
              refine d_q rfl (q_fieldAddr rfl Try.underlying47 rfl Try.sizeOf3 rfl rfl) rfl rfl ?_
              refine d_q rfl (q_loadV j 0 rfl Try.isAgg3 rfl rfl (fun _ h => h) hy rfl) rfl rfl ?_
              refine d_q rfl (q_eql rfl rfl rfl) rfl rfl ?_
              refine d_q rfl (q_move rfl rfl) rfl rfl ?_
              refine Pre.caseB 100 rfl (fun h2 => ?_) (fun h2 => ?_)
              · simp only [decide_eq_true_eq, decide_eq_false_iff_not, Bool.not_eq_true', Bool.not_eq_false'] at h2
                refine d_q rfl (q_move rfl rfl) rfl rfl ?_
                refine d_q rfl (q_move rfl rfl) rfl rfl ?_
                refine d_q rfl (q_lss rfl rfl rfl) rfl rfl ?_
                refine d_q rfl (q_pick_t rfl rfl rfl) rfl rfl ?_
                refine d_q rfl (q_move rfl rfl) rfl rfl ?_
                refine Pre.caseB 105 rfl (fun h3 => ?_) (fun h3 => ?_)
                · simp only [decide_eq_true_eq, decide_eq_false_iff_not, Bool.not_eq_true', Bool.not_eq_false'] at h3
                  refine d_q rfl (q_move rfl rfl) rfl rfl ?_
                  refine d_q rfl (q_move rfl rfl) rfl rfl ?_
                  refine d_q rfl (q_indexV i rfl Try.underlying28 Try.sizeOf47 rfl (fun _ h => h) rfl rfl (by omega)) rfl rfl ?_
                  refine d_q rfl (q_loadVAgg i rfl Try.isAgg47 Try.sizeOf47 rfl rfl (fun _ h => h) hx) rfl rfl ?_
                  refine d_q rfl (q_move rfl rfl) rfl rfl ?_
                  refine d_q rfl (q_move rfl rfl) rfl rfl ?_
                  refine d_q rfl (q_indexV j rfl Try.underlying28 Try.sizeOf47 rfl (fun _ h => h) rfl rfl (by omega)) rfl rfl ?_
                  refine d_q rfl (q_loadVAgg j rfl Try.isAgg47 Try.sizeOf47 rfl rfl (fun _ h => h) hy) rfl rfl ?_
                  refine d_e rfl ?_
                  refine e_call_00 (bef_spec x y) rfl rfl rfl Try.call21 rfl (fun _ _ => trivial) ?_
                  intro _ _
                  refine d_held (fun _ h => h.rd 0 rfl) ?_
                  refine d_q rfl (q_not rfl rfl) rfl rfl ?_
                  refine d_q rfl (q_pick_t rfl rfl rfl) rfl rfl ?_
                  refine d_q rfl (q_pick_f rfl rfl rfl) rfl rfl ?_
                  refine d_nil ?_
                  refine Pre.setB (t := 117) (c := false) rfl (by rw [h1]; rfl) ?_
                  exact k_meet (()) trivial (Sub.cons rfl (Sub.cons rfl (Sub.cons rfl (Sub.cons rfl (Sub.nil))))) (fun _ h => h)
                · simp only [decide_eq_true_eq, decide_eq_false_iff_not, Bool.not_eq_true', Bool.not_eq_false'] at h3
                  refine d_not rfl rfl rfl ?_
                  refine d_not rfl rfl rfl ?_
                  refine d_not rfl rfl rfl ?_
                  refine d_not rfl rfl rfl ?_
                  refine d_not rfl rfl rfl ?_
                  refine d_not rfl rfl rfl ?_
                  refine d_not rfl rfl rfl ?_
                  refine d_not rfl rfl rfl ?_
                  refine d_not rfl rfl rfl ?_
                  refine d_not rfl rfl rfl ?_
                  refine d_q rfl (q_pick_f rfl rfl rfl) rfl rfl ?_
                  refine d_q rfl (q_pick_f rfl rfl rfl) rfl rfl ?_
                  refine d_nil ?_
                  exact k_meet (()) trivial (Sub.cons rfl (Sub.cons rfl (Sub.cons rfl (Sub.cons rfl (Sub.nil))))) (fun _ h => h)
              · simp only [decide_eq_true_eq, decide_eq_false_iff_not, Bool.not_eq_true', Bool.not_eq_false'] at h2
                refine d_not rfl rfl rfl ?_
                refine d_not rfl rfl rfl ?_
                refine d_not rfl rfl rfl ?_
                refine d_q rfl (q_pick_f rfl rfl rfl) rfl rfl ?_
                refine d_q rfl (q_move rfl rfl) rfl rfl ?_
                refine d_not rfl rfl rfl ?_
                refine d_not rfl rfl rfl ?_
                refine d_not rfl rfl rfl ?_
                refine d_not rfl rfl rfl ?_
                refine d_not rfl rfl rfl ?_
                refine d_not rfl rfl rfl ?_
                refine d_not rfl rfl rfl ?_
                refine d_not rfl rfl rfl ?_
                refine d_not rfl rfl rfl ?_
                refine d_not rfl rfl rfl ?_
                refine d_q rfl (q_pick_f rfl rfl rfl) rfl rfl ?_
                refine d_q rfl (q_pick_f rfl rfl rfl) rfl rfl ?_
                refine d_nil ?_
                exact k_meet (()) trivial (Sub.cons rfl (Sub.cons rfl (Sub.cons rfl (Sub.cons rfl (Sub.nil))))) (fun _ h => h)
            · refine d_not rfl rfl rfl ?_
              refine d_not rfl rfl rfl ?_
              refine d_not rfl rfl rfl ?_
              refine d_not rfl rfl rfl ?_
              refine d_not rfl rfl rfl ?_
              refine d_not rfl rfl rfl ?_
              refine d_not rfl rfl rfl ?_
              refine d_not rfl rfl rfl ?_
              refine d_not rfl rfl rfl ?_
              refine d_not rfl rfl rfl ?_
              refine d_not rfl rfl rfl ?_
              refine d_not rfl rfl rfl ?_
              refine d_not rfl rfl rfl ?_
              refine d_not rfl rfl rfl ?_
              refine d_q rfl (q_pick_f rfl rfl rfl) rfl rfl ?_
              refine d_q rfl (q_move rfl rfl) rfl rfl ?_
              refine d_q rfl (q_move rfl rfl) rfl rfl ?_
              refine d_q rfl (q_move rfl rfl) rfl rfl ?_
              refine d_q rfl (q_indexV i rfl Try.underlying28 Try.sizeOf47 rfl (fun _ h => h) rfl rfl (by omega)) rfl rfl ?_
              refine d_q rfl (q_fieldAddr rfl Try.underlying47 rfl Try.sizeOf3 rfl rfl) rfl rfl ?_
              refine d_q rfl (q_loadV i 0 rfl Try.isAgg3 rfl rfl (fun _ h => h) hx rfl) rfl rfl ?_
              refine d_q rfl (q_move rfl rfl) rfl rfl ?_
              refine d_q rfl (q_move rfl rfl) rfl rfl ?_
              refine d_q rfl (q_indexV j rfl Try.underlying28 Try.sizeOf47 rfl (fun _ h => h) rfl rfl (by omega)) rfl rfl ?_
              refine d_q rfl (q_fieldAddr rfl Try.underlying47 rfl Try.sizeOf3 rfl rfl) rfl rfl ?_
              refine d_q rfl (q_loadV j 0 rfl Try.isAgg3 rfl rfl (fun _ h => h) hy rfl) rfl rfl ?_
              refine d_q rfl (q_eql rfl rfl rfl) rfl rfl ?_
              refine d_q rfl (q_move rfl rfl) rfl rfl ?_
              refine Pre.caseB 100 rfl (fun h2 => ?_) (fun h2 => ?_)
              · simp only [decide_eq_true_eq, decide_eq_false_iff_not, Bool.not_eq_true', Bool.not_eq_false'] at h2
                refine d_q rfl (q_move rfl rfl) rfl rfl ?_
                refine d_q rfl (q_move rfl rfl) rfl rfl ?_
                refine d_q rfl (q_lss rfl rfl rfl) rfl rfl ?_
                refine d_q rfl (q_pick_t rfl rfl rfl) rfl rfl ?_
                refine d_q rfl (q_move rfl rfl) rfl rfl ?_
                refine Pre.caseB 105 rfl (fun h3 => ?_) (fun h3 => ?_)
                · simp only [decide_eq_true_eq, decide_eq_false_iff_not, Bool.not_eq_true', Bool.not_eq_false'] at h3
                  have h4 := hL.own hx hy h2 (by omega)
                  rw [h1] at h4; cases h4
                · simp only [decide_eq_true_eq, decide_eq_false_iff_not, Bool.not_eq_true', Bool.not_eq_false'] at h3
                  refine d_not rfl rfl rfl ?_
                  refine d_not rfl rfl rfl ?_
                  refine d_not rfl rfl rfl ?_
                  refine d_not rfl rfl rfl ?_
                  refine d_not rfl rfl rfl ?_
                  refine d_not rfl rfl rfl ?_
                  refine d_not rfl rfl rfl ?_
                  refine d_not rfl rfl rfl ?_
                  refine d_not rfl rfl rfl ?_
                  refine d_not rfl rfl rfl ?_
                  refine d_q rfl (q_pick_f rfl rfl rfl) rfl rfl ?_
                  refine d_q rfl (q_pick_f rfl rfl rfl) rfl rfl ?_
                  refine d_nil ?_
                  exact k_meet (()) trivial (Sub.cons rfl (Sub.cons rfl (Sub.cons rfl (Sub.cons rfl (Sub.nil))))) (fun _ h => h)
              · simp only [decide_eq_true_eq, decide_eq_false_iff_not, Bool.not_eq_true', Bool.not_eq_false'] at h2
                refine d_not rfl rfl rfl ?_
                refine d_not rfl rfl rfl ?_
                refine d_not rfl rfl rfl ?_
                refine d_q rfl (q_pick_f rfl rfl rfl) rfl rfl ?_
                refine d_q rfl (q_move rfl rfl) rfl rfl ?_
                refine d_not rfl rfl rfl ?_
                refine d_not rfl rfl rfl ?_
                refine d_not rfl rfl rfl ?_
                refine d_not rfl rfl rfl ?_
                refine d_not rfl rfl rfl ?_
                refine d_not rfl rfl rfl ?_
                refine d_not rfl rfl rfl ?_
                refine d_not rfl rfl rfl ?_
                refine d_not rfl rfl rfl ?_
                refine d_not rfl rfl rfl ?_
                refine d_q rfl (q_pick_f rfl rfl rfl) rfl rfl ?_
                refine d_q rfl (q_pick_f rfl rfl rfl) rfl rfl ?_
                refine d_nil ?_
                exact k_meet (()) trivial (Sub.cons rfl (Sub.cons rfl (Sub.cons rfl (Sub.cons rfl (Sub.nil))))) (fun _ h => h)
          · intro _u _
            refine c_false rfl ?_
            refine c_skip ?_
            refine k_then ?_
            refine c_seq ?_
            refine c_region _ rfl ?_
            refine l_q rfl (q_assign rfl rfl) rfl rfl ?_
            refine l_nil ?_
            refine k_then ?_
            refine c_block ?_
            refine c_loop1 (fun (k : Nat) => [(9, va), (10, .int .i64 (i : Int)), (11, .int .i64 (j : Int)), (12, .int .i64 (k : Int))]) (fun (k : Nat) => St w [] [rowE va 47 Ca.enc R]) (fun (k : Nat) => k ≤ R.length) (fun (k : Nat) => R.length - k) (0) (Nat.zero_le _) (Sub.cons rfl (Sub.cons rfl (Sub.cons rfl (Sub.cons rfl (Sub.nil))))) (fun _ h => h) ?_
            intro k hk
            refine c_seq ?_
            refine c_seq ?_
            refine c_region _ rfl ?_
            refine l_q rfl (q_move rfl rfl) rfl rfl ?_
            refine l_q rfl (q_move rfl rfl) rfl rfl ?_
            refine l_q rfl (q_lenV rfl Try.underlying28 rfl (fun _ h => h.rd 0 rfl)) rfl rfl ?_
            refine l_q rfl (q_lss rfl rfl rfl) rfl rfl ?_
            refine l_q rfl (q_move rfl rfl) rfl rfl ?_
            refine Pre.caseB 122 rfl (fun gk => ?_) (fun gk => ?_)
            · simp only [decide_eq_true_eq, decide_eq_false_iff_not, Bool.not_eq_true', Bool.not_eq_false'] at gk
              refine l_q rfl (q_move rfl rfl) rfl rfl ?_
              refine l_q rfl (q_lss rfl rfl rfl) rfl rfl ?_
              refine l_q rfl (q_pick_t rfl rfl rfl) rfl rfl ?_
              refine l_nil ?_
              refine k_then ?_
              refine Pre.caseB 125 rfl (fun fk => ?_) (fun fk => ?_)
              · simp only [decide_eq_true_eq, decide_eq_false_iff_not, Bool.not_eq_true', Bool.not_eq_false'] at fk
                obtain ⟨z, hz⟩ : ∃ z, R[k]? = some z := ⟨_, List.getElem?_eq_getElem (by omega)⟩
                refine c_true rfl ?_
                refine c_skip ?_
                refine k_then ?_
                refine c_seq ?_
                refine c_block ?_
                refine c_seq ?_
                refine c_draw [(0, some true), (1, some true), (2, some true), (3, some true), (4, some true), (5, some true), (6, some true), (7, some true), (8, some false), (9, some true), (10, some true), (11, some true), (12, some true), (13, some true), (14, some true), (15, some true), (16, some true), (17, some true), (18, some false), (19, some true), (20, some true), (21, some true), (22, some true), (23, some true), (24, some true), (25, some true), (26, some true), (27, some true), (28, some true), (29, some false), (30, some true), (31, some true)] [] [(_, some true), (_, some true), (_, some true), (_, some true), (_, some true), (_, some true), (_, some true), (_, some true), (_, some false), (_, some true), (_, some true), (_, some true), (_, some true), (_, some true), (_, some true), (_, some true), (_, some true), (_, some true), (_, some false), (_, some true), (_, some true), (_, some true), (_, some true), (_, some true), (_, some true), (_, some true), (_, some true), (_, some true), (_, some true), (_, some false), (_, some true), (_, some true)] (fun w2 => RdV w2 va Ca.enc R) (blind_then (blind_block (blind_then (blind_then (blind_block (blind_block (blind_then (blind_then (blind_block (blind_block (blind_then (blind_then (blind_block (blind_then blind_body)))))))))))))) rfl (by kernel_rfl) (by kernel_rfl) rfl rfl rfl (by kernel_rfl) St.drawn (fun _ h => h.rd 0 rfl) ?_
                refine d_q rfl (q_move rfl rfl) rfl rfl ?_
                refine d_q rfl (q_move rfl rfl) rfl rfl ?_
                refine d_q rfl (q_indexV i rfl Try.underlying28 Try.sizeOf47 rfl (fun _ h => h) rfl rfl (by omega)) rfl rfl ?_
                refine d_q rfl (q_loadVAgg i rfl Try.isAgg47 Try.sizeOf47 rfl rfl (fun _ h => h) hx) rfl rfl ?_
                refine d_q rfl (q_move rfl rfl) rfl rfl ?_
                refine d_q rfl (q_move rfl rfl) rfl rfl ?_
                refine d_q rfl (q_indexV j rfl Try.underlying28 Try.sizeOf47 rfl (fun _ h => h) rfl rfl (by omega)) rfl rfl ?_
                refine d_q rfl (q_loadVAgg j rfl Try.isAgg47 Try.sizeOf47 rfl rfl (fun _ h => h) hy) rfl rfl ?_
                refine d_e rfl ?_
                refine e_call_00 (bef_spec x y) rfl rfl rfl Try.call21 rfl (fun _ _ => trivial) ?_
                intro _ _
                refine d_held (fun _ h => h.rd 0 rfl) ?_
                refine d_q rfl (q_move rfl rfl) rfl rfl ?_
                refine Pre.caseB 137 rfl (fun h1 => ?_) (fun h1 => ?_)
                · refine d_q rfl (q_move rfl rfl) rfl rfl ?_
                  refine d_q rfl (q_move rfl rfl) rfl rfl ?_
                  refine d_q rfl (q_indexV j rfl Try.underlying28 Try.sizeOf47 rfl (fun _ h => h) rfl rfl (by omega)) rfl rfl ?_
                  refine d_q rfl (q_loadVAgg j rfl Try.isAgg47 Try.sizeOf47 rfl rfl (fun _ h => h) hy) rfl rfl ?_
                  refine d_q rfl (q_move rfl rfl) rfl rfl ?_
                  refine d_q rfl (q_move rfl rfl) rfl rfl ?_
                  refine d_q rfl (q_indexV k rfl Try.underlying28 Try.sizeOf47 rfl (fun _ h => h) rfl rfl (by omega)) rfl rfl ?_
                  refine d_q rfl (q_loadVAgg k rfl Try.isAgg47 Try.sizeOf47 rfl rfl (fun _ h => h) hz) rfl rfl ?_
                  refine d_e rfl ?_
                  refine e_call_00 (bef_spec y z) rfl rfl rfl Try.call21 rfl (fun _ _ => trivial) ?_
                  intro _ _
                  refine d_held (fun _ h => h.rd 0 rfl) ?_
                  refine d_q rfl (q_pick_t rfl rfl rfl) rfl rfl ?_
                  refine d_q rfl (q_move rfl rfl) rfl rfl ?_
                  refine Pre.caseB 148 rfl (fun h2 => ?_) (fun h2 => ?_)
                  · have h3 := hL.trans hx hy hz h1 h2
                    refine d_q rfl (q_move rfl rfl) rfl rfl ?_
                    refine d_q rfl (q_move rfl rfl) rfl rfl ?_
                    refine d_q rfl (q_indexV i rfl Try.underlying28 Try.sizeOf47 rfl (fun _ h => h) rfl rfl (by omega)) rfl rfl ?_
                    refine d_q rfl (q_loadVAgg i rfl Try.isAgg47 Try.sizeOf47 rfl rfl (fun _ h => h) hx) rfl rfl ?_
                    refine d_q rfl (q_move rfl rfl) rfl rfl ?_
                    refine d_q rfl (q_move rfl rfl) rfl rfl ?_
                    refine d_q rfl (q_indexV k rfl Try.underlying28 Try.sizeOf47 rfl (fun _ h => h) rfl rfl (by omega)) rfl rfl ?_
                    refine d_q rfl (q_loadVAgg k rfl Try.isAgg47 Try.sizeOf47 rfl rfl (fun _ h => h) hz) rfl rfl ?_
                    refine d_e rfl ?_
                    refine e_call_00 (bef_spec x z) rfl rfl rfl Try.call21 rfl (fun _ _ => trivial) ?_
                    intro _ _
                    refine d_held (fun _ h => h.rd 0 rfl) ?_
                    refine d_q rfl (q_not rfl rfl) rfl rfl ?_
                    refine d_q rfl (q_pick_t rfl rfl rfl) rfl rfl ?_
                    refine d_nil ?_
                    refine k_then ?_
                    refine Pre.setB (t := 159) (c := false) rfl (by rw [h3]; rfl) ?_
                    refine c_false rfl ?_
                    refine c_skip ?_
                    refine k_block ?_
                    refine k_then ?_
                    refine c_region _ rfl ?_
                    refine l_q rfl (q_move rfl rfl) rfl rfl ?_
                    refine l_q rfl (q_inc rfl rfl rfl (by omega)) rfl rfl ?_
                    refine l_q rfl (q_assign rfl rfl) rfl rfl ?_
                    refine l_nil ?_
                    exact k_round (k + 1) (by omega) (by omega) (Sub.cons rfl (Sub.cons rfl (Sub.cons rfl (Sub.cons rfl (Sub.nil))))) (fun _ h => h)
                  · refine d_not rfl rfl rfl ?_
                    refine d_not rfl rfl rfl ?_
                    refine d_not rfl rfl rfl ?_
                    refine d_not rfl rfl rfl ?_
                    refine d_not rfl rfl rfl ?_
                    refine d_not rfl rfl rfl ?_
                    refine d_not rfl rfl rfl ?_
                    refine d_not rfl rfl rfl ?_
                    refine d_not rfl rfl rfl ?_
                    refine d_not rfl rfl rfl ?_
                    refine d_q rfl (q_pick_f rfl rfl rfl) rfl rfl ?_
                    refine d_nil ?_
                    refine k_then ?_
                    refine c_false rfl ?_
                    refine c_skip ?_
                    refine k_block ?_
                    refine k_then ?_
                    refine c_region _ rfl ?_
                    refine l_q rfl (q_move rfl rfl) rfl rfl ?_
                    refine l_q rfl (q_inc rfl rfl rfl (by omega)) rfl rfl ?_
                    refine l_q rfl (q_assign rfl rfl) rfl rfl ?_
                    refine l_nil ?_
                    exact k_round (k + 1) (by omega) (by omega) (Sub.cons rfl (Sub.cons rfl (Sub.cons rfl (Sub.cons rfl (Sub.nil))))) (fun _ h => h)
                · refine d_not rfl rfl rfl ?_
                  refine d_not rfl rfl rfl ?_
                  refine d_not rfl rfl rfl ?_
                  refine d_not rfl rfl rfl ?_
                  refine d_not rfl rfl rfl ?_
                  refine d_not rfl rfl rfl ?_
                  refine d_not rfl rfl rfl ?_
                  refine d_not rfl rfl rfl ?_
                  refine d_not rfl rfl rfl ?_
                  refine d_q rfl (q_pick_f rfl rfl rfl) rfl rfl ?_
                  refine d_q rfl (q_move rfl rfl) rfl rfl ?_
                  refine d_not rfl rfl rfl ?_
                  refine d_not rfl rfl rfl ?_
                  refine d_not rfl rfl rfl ?_
                  refine d_not rfl rfl rfl ?_
                  refine d_not rfl rfl rfl ?_
                  refine d_not rfl rfl rfl ?_
                  refine d_not rfl rfl rfl ?_
                  refine d_not rfl rfl rfl ?_
                  refine d_not rfl rfl rfl ?_
                  refine d_not rfl rfl rfl ?_
                  refine d_q rfl (q_pick_f rfl rfl rfl) rfl rfl ?_
                  refine d_nil ?_
                  refine k_then ?_
                  refine c_false rfl ?_
                  refine c_skip ?_
                  refine k_block ?_
                  refine k_then ?_
                  refine c_region _ rfl ?_
                  refine l_q rfl (q_move rfl rfl) rfl rfl ?_
                  refine l_q rfl (q_inc rfl rfl rfl (by omega)) rfl rfl ?_
                  refine l_q rfl (q_assign rfl rfl) rfl rfl ?_
                  refine l_nil ?_
                  exact k_round (k + 1) (by omega) (by omega) (Sub.cons rfl (Sub.cons rfl (Sub.cons rfl (Sub.cons rfl (Sub.nil))))) (fun _ h => h)
              · simp only [decide_eq_true_eq, decide_eq_false_iff_not, Bool.not_eq_true', Bool.not_eq_false'] at fk
                refine c_false rfl ?_
                refine c_exit ?_
                refine k_then_exit ?_
                refine k_then_exit ?_
                refine k_block_exit ?_
                refine k_block ?_
                refine k_then ?_
                refine c_region _ rfl ?_
                refine l_q rfl (q_move rfl rfl) rfl rfl ?_
                refine l_q rfl (q_inc rfl rfl rfl (by omega)) rfl rfl ?_
                refine l_q rfl (q_assign rfl rfl) rfl rfl ?_
                refine l_nil ?_
                exact k_round (j + 1) (by omega) (by omega) (Sub.cons rfl (Sub.cons rfl (Sub.cons rfl (Sub.nil)))) (fun _ h => h)
            · simp only [decide_eq_true_eq, decide_eq_false_iff_not, Bool.not_eq_true', Bool.not_eq_false'] at gk
              refine l_not rfl rfl rfl ?_
              refine l_not rfl rfl rfl ?_
              refine l_q rfl (q_pick_f rfl rfl rfl) rfl rfl ?_
              refine l_nil ?_
              refine k_then ?_
              refine c_false rfl ?_
              refine c_exit ?_
              refine k_then_exit ?_
              refine k_then_exit ?_
              refine k_block_exit ?_
              refine k_block ?_
              refine k_then ?_
              refine c_region _ rfl ?_
              refine l_q rfl (q_move rfl rfl) rfl rfl ?_
              refine l_q rfl (q_inc rfl rfl rfl (by omega)) rfl rfl ?_
              refine l_q rfl (q_assign rfl rfl) rfl rfl ?_
              refine l_nil ?_
              exact k_round (j + 1) (by omega) (by omega) (Sub.cons rfl (Sub.cons rfl (Sub.cons rfl (Sub.nil)))) (fun _ h => h)
        · simp only [decide_eq_true_eq, decide_eq_false_iff_not, Bool.not_eq_true', Bool.not_eq_false'] at fj
          refine c_false rfl ?_
          refine c_exit ?_
          refine k_then_exit ?_
          refine k_then_exit ?_
          refine k_block_exit ?_
          refine k_block ?_
          refine k_then ?_
          refine c_region _ rfl ?_
          refine l_q rfl (q_move rfl rfl) rfl rfl ?_
          refine l_q rfl (q_inc rfl rfl rfl (by omega)) rfl rfl ?_
          refine l_q rfl (q_assign rfl rfl) rfl rfl ?_
          refine l_nil ?_
          exact k_round (i + 1) (by omega) (by omega) (Sub.cons rfl (Sub.cons rfl (Sub.nil))) (fun _ h => h)
      · simp only [decide_eq_true_eq, decide_eq_false_iff_not, Bool.not_eq_true', Bool.not_eq_false'] at gj
        refine l_not rfl rfl rfl ?_
        refine l_not rfl rfl rfl ?_
        refine l_q rfl (q_pick_f rfl rfl rfl) rfl rfl ?_
        refine l_nil ?_
        refine k_then ?_
        refine c_false rfl ?_
        refine c_exit ?_
        refine k_then_exit ?_
        refine k_then_exit ?_
        refine k_block_exit ?_
        refine k_block ?_
        refine k_then ?_
        refine c_region _ rfl ?_
        refine l_q rfl (q_move rfl rfl) rfl rfl ?_
        refine l_q rfl (q_inc rfl rfl rfl (by omega)) rfl rfl ?_
        refine l_q rfl (q_assign rfl rfl) rfl rfl ?_
        refine l_nil ?_
        exact k_round (i + 1) (by omega) (by omega) (Sub.cons rfl (Sub.cons rfl (Sub.nil))) (fun _ h => h)
    · simp only [decide_eq_true_eq, decide_eq_false_iff_not, Bool.not_eq_true', Bool.not_eq_false'] at fi
      refine c_false rfl ?_
      refine c_exit ?_
      refine k_then_exit ?_
      refine k_then_exit ?_
      refine k_block_exit ?_
      refine k_then ?_
      refine c_seq ?_
      refine c_region _ rfl ?_
      refine l_e rfl ?_
      refine e_call_00 (awake_spec) rfl rfl rfl Try.call20 rfl (fun _ _ => trivial) ?_
      intro _ _
      refine l_q rfl (q_assign rfl rfl) rfl rfl ?_
      refine l_nil ?_
      refine k_then ?_
      refine c_ret ?_
      refine r_one rfl rfl ?_
      exact fun _ h => ⟨(), rfl, trivial, h.nothing⟩
  · simp only [decide_eq_true_eq, decide_eq_false_iff_not, Bool.not_eq_true', Bool.not_eq_false'] at gi
    refine l_not rfl rfl rfl ?_
    refine l_not rfl rfl rfl ?_
    refine l_q rfl (q_pick_f rfl rfl rfl) rfl rfl ?_
    refine l_nil ?_
    refine k_then ?_
    refine c_false rfl ?_
    refine c_exit ?_
    refine k_then_exit ?_
    refine k_then_exit ?_
    refine k_block_exit ?_
    refine k_then ?_
    refine c_seq ?_
    refine c_region _ rfl ?_
    refine l_e rfl ?_
    refine e_call_00 (awake_spec) rfl rfl rfl Try.call20 rfl (fun _ _ => trivial) ?_
    intro _ _
    refine l_q rfl (q_assign rfl rfl) rfl rfl ?_
    refine l_nil ?_
    refine k_then ?_
    refine c_ret ?_
    refine r_one rfl rfl ?_
    exact fun _ h => ⟨(), rfl, trivial, h.nothing⟩
theorem histOrder_walk (w : World) (a0 : Int) (w0 : (Lit.int .i64 a0).wf = true) (A1 : Option Addr) (c1 : Nat) (z1 : List Int) (rd1 : Rd w w.heap.size A1 (z1.map (.int .i64))) (l1 : z1.length ≤ c1) (m1 : c1 ≤ maxLen) (w1 : ∀ z ∈ z1, (Lit.int .i64 z).wf = true) (A2 : Option Addr) (c2 : Nat) (z2 : List Int) (rd2 : Rd w w.heap.size A2 (z2.map (.int .i64))) (l2 : z2.length ≤ c2) (m2 : c2 ≤ maxLen) (w2 : ∀ z ∈ z2, (Lit.int .i64 z).wf = true) :
    Calls Try.prog 6 #[.int .i64 a0, .slice A1 z1.length c1, .slice A2 z2.length c2] w fun e w' => e = .returned (.bool true) ∧ Below w.heap.size w w' := by
  have f1 := flat_one' (encI .i64) (Value.int .i64) (fun _ => rfl) z1
  have f2 := flat_one' (encI .i64) (Value.int .i64) (fun _ => rfl) z2
  rw [← f1] at rd1
  rw [← f2] at rd2
  exact con_walk (order_spec a0 z1 z2) ⟨rdv_of rd1 l1, rdv_of rd2 l2⟩
end Go.Proofs.Ythfdmeikpbkpaaa
