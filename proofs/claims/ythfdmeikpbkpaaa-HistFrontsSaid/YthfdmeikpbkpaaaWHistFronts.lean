/- HistFronts, walked -/
import Derived.Test.YthfdmeikpbkpaaaT
import Derived.Test.YthfdmeikpbkpaaaU
set_option linter.unusedVariables false
set_option linter.unusedSimpArgs false
namespace Go.Proofs.Ythfdmeikpbkpaaa
open Go.Sep Go.RowKit

theorem rr_ops {b : OpsR} {m : Nat} {w : World} (h : RdV w b.vo encSv (b.vs m)) (h0 : RdV w b.q0.v Op.enc b.o0) (h1 : RdV w b.q1.v Op.enc b.o1) (h2 : RdV w b.q2.v Op.enc b.o2) (h3 : RdV w b.q3.v Op.enc b.o3) : RR w b.vo (b.vs m) (b.ops m) := by
  refine ⟨h, by unfold OpsR.vs OpsR.ops; rw [List.length_take, List.length_take]; rfl, fun i s o g1 g2 => ?_⟩
  unfold OpsR.vs at g1
  unfold OpsR.ops at g2
  rw [List.getElem?_take] at g1 g2
  split at g1
  · rename_i hi
    rw [if_pos hi] at g2
    match i with
    | 0 => cases g1; cases g2; exact h0
    | 1 => cases g1; cases g2; exact h1
    | 2 => cases g1; cases g2; exact h2
    | 3 => cases g1; cases g2; exact h3
    | i + 4 => simp at g1
  · cases g1
theorem ops_len (b : OpsR) (m : Nat) : (b.ops m).length ≤ 65536 := by unfold OpsR.ops; have := List.length_take_le m [b.o0, b.o1, b.o2, b.o3]; rw [List.length_take]; show min m 4 ≤ _; omega
theorem ops_each {b : OpsR} (h : b.o0.length ≤ 96 ∧ b.o1.length ≤ 96 ∧ b.o2.length ≤ 96 ∧ b.o3.length ≤ 96) (m : Nat) : ∀ o ∈ b.ops m, o.length ≤ 65536 := fun o ho => by
  have := List.mem_of_mem_take ho
  simp only [List.mem_cons, List.not_mem_nil, or_false] at this
  rcases this with rfl | rfl | rfl | rfl <;> omega

theorem set_to1 (c : Ca) : (Ca.c c).set 7 (.int .i64 (-1)) = Ca.c { c with to' := -1, wt := by decide } := rfl
set_option maxRecDepth 100000 in
set_option maxHeartbeats 1000000 in
theorem fronts_spec {v1 v2 : Value} (n : Int) (l1 l2 : List Int) (at1 : Int) : Con Try.prog 5 [.int .i64 n, v1, v2, .int .i64 at1] (fun w => RdV w v1 (encI .i64) l1 ∧ RdV w v2 (encI .i64) l2) [] (fun _ : Unit => .bool true) (fun _ => True) (fun _ => []) := by
  intro w hE hH
  obtain ⟨hl1, hl2⟩ := hE
  refine enter (n := 97) (vs := [.int .i64 n, v1, v2, .int .i64 at1]) (St w [] []) Try.func5 rfl rfl rfl (St.init hH) ?_
  refine c_seq ?_
  refine c_region _ rfl ?_
  refine l_q rfl (q_assign rfl rfl) rfl rfl ?_
  refine l_nil ?_
  refine k_then ?_
  refine c_seq ?_
  refine c_region _ rfl ?_
  refine l_q rfl (q_move rfl rfl) rfl rfl ?_
  refine l_q rfl (q_move rfl rfl) rfl rfl ?_
  refine l_e rfl ?_
  refine e_call_00 (place_spec n 4 (by decide) (by decide)) rfl rfl rfl Try.call9 rfl (fun _ _ => trivial) ?_
  intro _ _
  refine l_q rfl (q_add64 rfl rfl rfl (by omega)) rfl rfl ?_
  obtain ⟨m, hm, h1m, hm4⟩ : ∃ m : Nat, 1 + n % 4 = (m : Int) ∧ 1 ≤ m ∧ m ≤ 4 := ⟨(1 + n % 4).toNat, by omega, by omega, by omega⟩
  refine Pre.setV (t := 19) (c := .int .i64 (m : Int)) rfl (by rw [hm]) ?_
  refine l_e rfl ?_
  refine e_call_05 (ops_ex l1 m h1m hm4) rfl rfl rfl Try.call8 rfl (fun _ h => hl1.keep h (by simp [dom])) ?_
  intro b hb
  refine l_q rfl (q_assign rfl rfl) rfl rfl ?_
  refine l_nil ?_
  refine k_then ?_
  refine c_seq ?_
  refine c_region _ rfl ?_
  refine l_q rfl (q_move rfl rfl) rfl rfl ?_
  refine l_q rfl (q_move rfl rfl) rfl rfl ?_
  have hO := ops_each hb m
  have hol := ops_len b m
  have ho4 : (b.ops m).length ≤ 4 := by unfold OpsR.ops; rw [List.length_take]; show min m 4 ≤ _; omega
  refine l_e rfl ?_
  refine e_call_01 (told_ex l2 (b.vs m) (b.ops m) hol hO) rfl rfl rfl Try.call10 rfl (fun _ h => ⟨hl2.keep h (by simp [dom]), (rr_ops (h.rd 0 rfl) (h.rd 1 rfl) (h.rd 2 rfl) (h.rd 3 rfl) (h.rd 4 rfl))⟩) ?_
  intro e he
  refine l_q rfl (q_assign rfl rfl) rfl rfl ?_
  refine l_nil ?_
  refine k_then ?_
  refine c_seq ?_
  refine c_seq ?_
  refine c_region _ rfl ?_
  refine l_q rfl (q_move rfl rfl) rfl rfl ?_
  refine l_q rfl (q_move rfl rfl) rfl rfl ?_
  have hn : e.2.length ≤ 65536 := by omega
  refine l_e rfl ?_
  refine e_call_00 (rchk_spec e.2 (b.vs m) (b.ops m) hn hol hO) rfl rfl rfl Try.call14 rfl (fun _ h => ⟨h.rd 0 rfl, (rr_ops (h.rd 1 rfl) (h.rd 2 rfl) (h.rd 3 rfl) (h.rd 4 rfl) (h.rd 5 rfl))⟩) ?_
  intro _ _
  refine l_q rfl (q_not rfl rfl) rfl rfl ?_
  refine l_nil ?_
  refine k_then ?_
  refine Pre.caseB 27 rfl (fun h0 => ?_) (fun h0 => ?_)
  · simp only [Bool.not_eq_true', Bool.not_eq_false'] at h0
    refine c_true rfl ?_
    refine c_seq ?_
    refine c_region _ rfl ?_
    refine l_e rfl ?_
    refine e_call_00 (awake_spec) rfl rfl rfl Try.call20 rfl (fun _ _ => trivial) ?_
    intro _ _
    refine l_q rfl (q_assign rfl rfl) rfl rfl ?_
    refine l_nil ?_
    refine k_then ?_
    refine c_ret ?_
    refine k_then_ret ?_
    refine r_one rfl rfl ?_
    exact fun _ h => ⟨(), rfl, trivial, h.nothing⟩
  · simp only [Bool.not_eq_true', Bool.not_eq_false'] at h0
    refine c_false rfl ?_
    refine c_skip ?_
    refine k_then ?_
    refine c_seq ?_
    refine c_region _ rfl ?_
    refine l_q rfl (q_move rfl rfl) rfl rfl ?_
    refine l_q rfl (q_move rfl rfl) rfl rfl ?_
    refine l_q rfl (q_lenV rfl Try.underlying26 rfl (fun _ h => h.rd 0 rfl)) rfl rfl ?_
    refine l_q rfl (q_inc rfl rfl rfl (by omega)) rfl rfl ?_
    refine l_e rfl ?_
    refine e_call_00 (place_spec at1 ((e.2.length : Int) + 1) (by omega) (by omega)) rfl rfl rfl Try.call9 rfl (fun _ _ => trivial) ?_
    intro _ _
    refine l_q rfl (q_assign rfl rfl) rfl rfl ?_
    refine l_nil ?_
    refine k_then ?_
    refine c_seq ?_
    obtain ⟨k, hk, hkl⟩ : ∃ k : Nat, at1 % ((e.2.length : Int) + 1) = (k : Int) ∧ k ≤ e.2.length := ⟨(at1 % ((e.2.length : Int) + 1)).toNat, by have := Int.emod_nonneg at1 (show ((e.2.length : Int) + 1) ≠ 0 by omega); omega, by have := Int.emod_lt_of_pos at1 (show 0 < ((e.2.length : Int) + 1) by omega); have := Int.emod_nonneg at1 (show ((e.2.length : Int) + 1) ≠ 0 by omega); omega⟩
    refine Pre.setV (t := 11) (c := .int .i64 (k : Int)) rfl (by rw [hk]) ?_
    have hfc := chk_take h0 k
    obtain ⟨hfl, hfa⟩ := fronts_all hn h0 hkl
    have hcf := calls_front (ops := b.ops m) hkl
    have htn : (e.2.take k).length ≤ 65536 := Nat.le_trans (List.length_take_le _ _) (by omega)
    obtain ⟨F, hF⟩ : ∃ F, F = callsOf (b.ops m) e.2 k := ⟨_, rfl⟩
    obtain ⟨R, hR⟩ : ∃ R, R = callsOf (b.ops m) e.2 e.2.length := ⟨_, rfl⟩
    rw [← hF] at hfl hfa hcf
    rw [← hR] at hfl hfa
    have hRl : R.length ≤ e.2.length := by rw [hR]; exact calls_len _ _ _
    have hLF : Lies (b.ops m).length F := by
      have := lies_calls (ops := b.ops m) (evs := e.2.take k) htn
      rw [if_pos hfc, hcf] at this; exact this
    have hw1 := hLF.wid_le
    have hw2 := hLF.pen_le
    refine c_draw [(0, some true), (1, some true), (3, some true), (4, some true), (5, some true), (6, some true), (2, some false), (7, some false), (8, some true), (9, some true)] [] [(_, some true), (_, some true), (_, some true), (_, some true), (_, some true), (_, some true), (_, some false), (_, some false), (_, some true), (_, some true)] (fun w2 => RdV w2 e.1 Ev.enc e.2) (blind_then blind_body) rfl (by kernel_rfl) (by kernel_rfl) rfl rfl rfl (by kernel_rfl) St.drawn (fun _ h => h.rd 0 rfl) ?_
    refine d_q rfl (q_move rfl rfl) rfl rfl ?_
    refine d_q rfl (q_move rfl rfl) rfl rfl ?_
    refine d_q rfl (q_move rfl rfl) rfl rfl ?_
    refine d_q rfl (q_move rfl rfl) rfl rfl ?_
    refine d_q rfl (q_sliceVH k rfl Try.underlying26 Try.sizeOf52 rfl (fun _ h => h) rfl rfl (by omega)) rfl rfl ?_
    refine d_q rfl (q_move rfl rfl) rfl rfl ?_
    refine d_e rfl ?_
    refine e_call_01 (calls_spec e.2 (b.vs m) (b.ops m) hn hol hO) rfl rfl rfl Try.call11 rfl (fun _ h => ⟨h.rd 0 rfl, (rr_ops (h.rd 1 rfl) (h.rd 2 rfl) (h.rd 3 rfl) (h.rd 4 rfl) (h.rd 5 rfl))⟩) ?_
    intro va _
    rw [if_pos h0, ← hR]
    refine d_held (fun _ h => h.rd 1 rfl) ?_
    refine d_e rfl ?_
    refine e_call_01 (calls_spec (e.2.take k) (b.vs m) (b.ops m) htn hol hO) rfl rfl rfl Try.call11 rfl (fun _ h => ⟨vsl_rd (h.rd 1 rfl) (Nat.zero_le _) hkl, (rr_ops (h.rd 2 rfl) (h.rd 3 rfl) (h.rd 4 rfl) (h.rd 5 rfl) (h.rd 6 rfl))⟩) ?_
    intro vf _
    rw [if_pos hfc, hcf]
    refine d_held (fun _ h => h.rd 2 rfl) ?_
    refine d_q rfl (q_assign rfl rfl) rfl rfl ?_
    refine d_q rfl (q_assign rfl rfl) rfl rfl ?_
    refine d_nil ?_
    refine k_then ?_
    refine c_seq ?_
    refine c_seq ?_
    refine c_region _ rfl ?_
    refine l_q rfl (q_move rfl rfl) rfl rfl ?_
    refine l_q rfl (q_move rfl rfl) rfl rfl ?_
    refine l_q rfl (q_sliceVH k rfl Try.underlying26 Try.sizeOf52 rfl (fun _ h => h.rd 2 rfl) rfl rfl (by omega)) rfl rfl ?_
    refine l_q rfl (q_move rfl rfl) rfl rfl ?_
    refine l_e rfl ?_
    refine e_call_00 (chk_spec (e.2.take k) (b.vs m) (b.ops m) htn hol hO) rfl rfl rfl Try.call13 rfl (fun _ h => ⟨vsl_rd (h.rd 2 rfl) (Nat.zero_le _) hkl, (rr_ops (h.rd 3 rfl) (h.rd 4 rfl) (h.rd 5 rfl) (h.rd 6 rfl) (h.rd 7 rfl))⟩) ?_
    intro _ _
    refine l_q rfl (q_not rfl rfl) rfl rfl ?_
    refine l_q rfl (q_move rfl rfl) rfl rfl ?_
    refine Pre.setB (t := 48) (c := false) rfl (by rw [hfc]; rfl) ?_
    refine l_q rfl (q_move rfl rfl) rfl rfl ?_
    refine l_q rfl (q_lenV rfl Try.underlying28 rfl (fun _ h => h.rd 0 rfl)) rfl rfl ?_
    refine l_q rfl (q_move rfl rfl) rfl rfl ?_
    refine l_q rfl (q_lenV rfl Try.underlying28 rfl (fun _ h => h.rd 1 rfl)) rfl rfl ?_
    refine l_q rfl (q_gtr rfl rfl rfl) rfl rfl ?_
    refine l_q rfl (q_pick_f rfl rfl rfl) rfl rfl ?_
    refine l_q rfl (q_move rfl rfl) rfl rfl ?_
    refine Pre.setB (t := 55) (c := false) rfl (decide_eq_false (by omega)) ?_
    refine l_q rfl (q_move rfl rfl) rfl rfl ?_
    refine l_e rfl ?_
    refine e_call_00 (pen_spec F (by omega)) rfl rfl rfl Try.call18 rfl (fun _ h => h.rd 0 rfl) ?_
    intro _ _
    refine l_q rfl (q_gtr rfl rfl rfl) rfl rfl ?_
    refine l_q rfl (q_pick_f rfl rfl rfl) rfl rfl ?_
    refine l_nil ?_
    refine k_then ?_
    refine Pre.setB (t := 59) (c := false) rfl (decide_eq_false (by omega)) ?_
    refine c_false rfl ?_
    refine c_skip ?_
    refine k_then ?_
    refine c_seq ?_
    refine c_seq ?_
    refine c_region _ rfl ?_
    refine l_q rfl (q_assign rfl rfl) rfl rfl ?_
    refine l_nil ?_
    refine k_then ?_
    refine c_block ?_
    refine pull1 ?_
    refine pull3 ?_
    refine drop0 ?_
    refine pull3 ?_
    refine drop0 ?_
    refine pull3 ?_
    refine drop0 ?_
    refine pull3 ?_
    refine drop0 ?_
    refine pull3 ?_
    refine drop0 ?_
    refine pull2 ?_
    refine drop0 ?_
    refine c_loop1 (fun (i : Nat) => [(11, .int .i64 (k : Int)), (12, va), (13, vf), (14, .int .i64 (i : Int))]) (fun (i : Nat) => St w [] [rowE va 47 Ca.enc R, rowE vf 47 Ca.enc F]) (fun (i : Nat) => i ≤ R.length) (fun (i : Nat) => R.length - i) (0) (Nat.zero_le _) (Sub.cons rfl (Sub.cons rfl (Sub.cons rfl (Sub.cons rfl (Sub.nil))))) (fun _ h => h) ?_
    intro i hi
    refine c_seq ?_
    refine c_seq ?_
    refine c_region _ rfl ?_
    refine l_q rfl (q_move rfl rfl) rfl rfl ?_
    refine l_q rfl (q_move rfl rfl) rfl rfl ?_
    refine l_q rfl (q_lenV rfl Try.underlying28 rfl (fun _ h => h.rd 0 rfl)) rfl rfl ?_
    refine l_q rfl (q_lss rfl rfl rfl) rfl rfl ?_
    refine l_nil ?_
    refine k_then ?_
    refine Pre.caseB 63 rfl (fun h1 => ?_) (fun h1 => ?_)
    · simp only [decide_eq_true_eq, decide_eq_false_iff_not, Bool.not_eq_true', Bool.not_eq_false'] at h1
      obtain ⟨x, hx⟩ : ∃ x, R[i]? = some x := ⟨_, List.getElem?_eq_getElem (by omega)⟩
      obtain ⟨hp1, hp2⟩ := hfa i x hx
      refine c_true rfl ?_
      refine c_skip ?_
      refine k_then ?_
      refine c_seq ?_
      refine c_block ?_
      refine c_seq ?_
      refine c_region _ rfl ?_
      refine l_q rfl (q_move rfl rfl) rfl rfl ?_
      refine l_q rfl (q_move rfl rfl) rfl rfl ?_
      refine l_q rfl (q_indexV i rfl Try.underlying28 Try.sizeOf47 rfl (fun _ h => h.rd 0 rfl) rfl rfl (by omega)) rfl rfl ?_
      refine l_q rfl (q_loadVAgg i rfl Try.isAgg47 Try.sizeOf47 rfl rfl (fun _ h => h.rd 0 rfl) hx) rfl rfl ?_
      refine l_e rfl ?_
      refine e_alloc rfl rfl rfl Try.zeroValue47 ?_
      intro bc
      refine l_e rfl ?_
      refine e_storeAgg rfl rfl Try.sizeOf47 rfl rfl (Ca.c_len _) (Ca.one _) (by show 0 + (Ca.c x).length ≤ 27; rw [Ca.c_len]; decide) ?_
      refine cells_eq (show Sep.splice _ 0 (x).c = (x).c from Sep.splice_all (by rw [Ca.c_len]; rfl)) ?_
      refine l_nil ?_
      refine k_then ?_
      refine c_seq ?_
      refine c_seq ?_
      refine (Nat.lt_or_ge i F.length).elim (fun hif => ?_) (fun hif => ?_)
      · obtain ⟨hf, hfk⟩ := hp1 hif
        refine c_region _ rfl ?_
        refine l_q rfl (q_fieldAddr rfl Try.underlying47 rfl Try.sizeOf3 rfl rfl) rfl rfl ?_
        refine l_q rfl (q_loadC rfl Try.isAgg3 rfl (fun _ h => h.at 0 rfl) rfl) rfl rfl ?_
        refine l_q rfl (q_move rfl rfl) rfl rfl ?_
        refine l_q rfl (q_lss rfl rfl rfl) rfl rfl ?_
        refine l_q rfl (q_move rfl rfl) rfl rfl ?_
        refine l_q rfl (q_move rfl rfl) rfl rfl ?_
        refine l_q rfl (q_lenV rfl Try.underlying28 rfl (fun _ h => h.rd 2 rfl)) rfl rfl ?_
        refine l_q rfl (q_lss rfl rfl rfl) rfl rfl ?_
        refine l_q rfl (q_neb rfl Try.underlying4 rfl rfl) rfl rfl ?_
        refine l_nil ?_
        refine k_then ?_
        refine Pre.setB (t := 78) (c := false) rfl (by rw [show decide (x.from' < (k : Int)) = true from decide_eq_true (by omega), show decide ((i : Int) < (F.length : Int)) = true from decide_eq_true (by omega)]; rfl) ?_
        refine c_false rfl ?_
        refine c_skip ?_
        refine k_then ?_
        refine c_seq ?_
        refine c_seq ?_
        refine c_region _ rfl ?_
        refine l_q rfl (q_move rfl rfl) rfl rfl ?_
        refine l_q rfl (q_move rfl rfl) rfl rfl ?_
        refine l_q rfl (q_lenV rfl Try.underlying28 rfl (fun _ h => h.rd 2 rfl)) rfl rfl ?_
        refine l_q rfl (q_geq rfl rfl rfl) rfl rfl ?_
        refine l_nil ?_
        refine k_then ?_
        refine Pre.setB (t := 82) (c := false) rfl (decide_eq_false (by omega)) ?_
        refine c_false rfl ?_
        refine c_skip ?_
        refine k_then ?_
        refine c_seq ?_
        refine c_seq ?_
        refine c_region _ rfl ?_
        refine l_q rfl (q_fieldAddr rfl Try.underlying47 rfl Try.sizeOf3 rfl rfl) rfl rfl ?_
        refine l_q rfl (q_loadC rfl Try.isAgg3 rfl (fun _ h => h.at 0 rfl) rfl) rfl rfl ?_
        refine l_q rfl (q_move rfl rfl) rfl rfl ?_
        refine l_q rfl (q_geq rfl rfl rfl) rfl rfl ?_
        refine l_nil ?_
        refine k_then ?_
        refine Pre.caseB 86 rfl (fun h2 => ?_) (fun h2 => ?_)
        · simp only [decide_eq_true_eq, decide_eq_false_iff_not, Bool.not_eq_true', Bool.not_eq_false'] at h2
          have hcx : cutC k x = { x with to' := -1, a := an0, wt := by decide } := by unfold cutC; rw [if_pos (by omega)]
          refine c_true rfl ?_
          refine c_region _ rfl ?_
          refine l_q rfl (q_build (an0.c) rfl rfl (fun w => by kernel_rfl)) rfl rfl ?_
          refine l_q rfl (q_fieldAddr rfl Try.underlying47 rfl Try.sizeOf3 rfl rfl) rfl rfl ?_
          refine l_e rfl ?_
          refine e_store rfl rfl Try.sizeOf3 rfl rfl rfl (by rw [Ca.c_len]; show 7 < 27; decide) ?_
          refine cells_eq (show _ = Ca.c { x with to' := -1, wt := by decide } from set_to1 x) ?_
          refine l_q rfl (q_fieldAddr rfl Try.underlying47 rfl Try.sizeOf45 rfl rfl) rfl rfl ?_
          refine l_e rfl ?_
          refine e_storeAgg rfl rfl Try.sizeOf45 rfl rfl (An.c_len _) (An.one _) (by rw [An.c_len, Ca.c_len]; decide) ?_
          refine cells_eq (show _ = (cutC k x).c from by rw [hcx]; exact set_an _ _) ?_
          refine l_nil ?_
          refine k_then ?_
          refine c_seq ?_
          refine c_draw [(0, some true), (1, some true), (2, some true), (3, some true), (4, some true), (5, some true)] [] [(_, some true), (_, some true), (_, some true), (_, some true), (_, some true), (_, some true)] (fun w2 => (cellsE bc 47 (cutC k x).c).at w2 ∧ RdV w2 vf Ca.enc F) (blind_then (blind_block (blind_then (blind_then (blind_block (blind_then blind_body)))))) rfl (by kernel_rfl) (by kernel_rfl) rfl rfl rfl (by kernel_rfl) St.drawn (fun _ h => ⟨h.at 0 rfl, h.rd 2 rfl⟩) ?_
          refine d_q rfl (q_loadCAgg ((cutC k x).c) rfl Try.isAgg47 Try.sizeOf47 rfl (fun _ h => h.1) (List.take_of_length_le (by rw [List.drop_zero, Ca.c_len]; exact Nat.le_refl _)) (Ca.c_len _)) rfl rfl ?_
          refine d_q rfl (q_move rfl rfl) rfl rfl ?_
          refine d_q rfl (q_move rfl rfl) rfl rfl ?_
          refine d_q rfl (q_indexV i rfl Try.underlying28 Try.sizeOf47 rfl (fun _ h => h.2) rfl rfl (by omega)) rfl rfl ?_
          refine d_q rfl (q_loadVAgg i rfl Try.isAgg47 Try.sizeOf47 rfl rfl (fun _ h => h.2) hf) rfl rfl ?_
          refine d_q rfl (q_neC ((cutC k x)) ((cutC k x)) rfl rfl rfl) rfl rfl ?_
          refine d_nil ?_
          refine k_then ?_
          refine Pre.setB (t := 95) (c := false) rfl (by simp) ?_
          refine c_false rfl ?_
          refine c_skip ?_
          refine k_block ?_
          refine k_then ?_
          refine c_region _ rfl ?_
          refine l_q rfl (q_move rfl rfl) rfl rfl ?_
          refine l_q rfl (q_inc rfl rfl rfl (by omega)) rfl rfl ?_
          refine l_q rfl (q_assign rfl rfl) rfl rfl ?_
          refine l_nil ?_
          refine drop0 ?_
          refine pull1 ?_
          refine pull1 ?_
          exact k_round (i + 1) (by omega) (by omega) (Sub.cons rfl (Sub.cons rfl (Sub.cons rfl (Sub.cons rfl (Sub.nil))))) (fun _ h => h)
        · simp only [decide_eq_true_eq, decide_eq_false_iff_not, Bool.not_eq_true', Bool.not_eq_false'] at h2
          have hcx : x = cutC k x := by unfold cutC; rw [if_neg (by omega)]
          refine c_false rfl ?_
          refine c_skip ?_
          refine k_then ?_
          refine c_seq ?_
          refine cells_eq (show x.c = (cutC k x).c from congrArg Ca.c hcx) ?_
          refine c_draw [(0, some true), (1, some true), (2, some true), (3, some true), (4, some true), (5, some true)] [] [(_, some true), (_, some true), (_, some true), (_, some true), (_, some true), (_, some true)] (fun w2 => (cellsE bc 47 (cutC k x).c).at w2 ∧ RdV w2 vf Ca.enc F) (blind_then (blind_block (blind_then (blind_then (blind_block (blind_then blind_body)))))) rfl (by kernel_rfl) (by kernel_rfl) rfl rfl rfl (by kernel_rfl) St.drawn (fun _ h => ⟨h.at 0 rfl, h.rd 2 rfl⟩) ?_
          refine d_q rfl (q_loadCAgg ((cutC k x).c) rfl Try.isAgg47 Try.sizeOf47 rfl (fun _ h => h.1) (List.take_of_length_le (by rw [List.drop_zero, Ca.c_len]; exact Nat.le_refl _)) (Ca.c_len _)) rfl rfl ?_
          refine d_q rfl (q_move rfl rfl) rfl rfl ?_
          refine d_q rfl (q_move rfl rfl) rfl rfl ?_
          refine d_q rfl (q_indexV i rfl Try.underlying28 Try.sizeOf47 rfl (fun _ h => h.2) rfl rfl (by omega)) rfl rfl ?_
          refine d_q rfl (q_loadVAgg i rfl Try.isAgg47 Try.sizeOf47 rfl rfl (fun _ h => h.2) hf) rfl rfl ?_
          refine d_q rfl (q_neC ((cutC k x)) ((cutC k x)) rfl rfl rfl) rfl rfl ?_
          refine d_nil ?_
          refine k_then ?_
          refine Pre.setB (t := 95) (c := false) rfl (by simp) ?_
          refine c_false rfl ?_
          refine c_skip ?_
          refine k_block ?_
          refine k_then ?_
          refine c_region _ rfl ?_
          refine l_q rfl (q_move rfl rfl) rfl rfl ?_
          refine l_q rfl (q_inc rfl rfl rfl (by omega)) rfl rfl ?_
          refine l_q rfl (q_assign rfl rfl) rfl rfl ?_
          refine l_nil ?_
          refine drop0 ?_
          refine pull1 ?_
          refine pull1 ?_
          exact k_round (i + 1) (by omega) (by omega) (Sub.cons rfl (Sub.cons rfl (Sub.cons rfl (Sub.cons rfl (Sub.nil))))) (fun _ h => h)
      · have hfk := hp2 hif
        refine c_region _ rfl ?_
        refine l_q rfl (q_fieldAddr rfl Try.underlying47 rfl Try.sizeOf3 rfl rfl) rfl rfl ?_
        refine l_q rfl (q_loadC rfl Try.isAgg3 rfl (fun _ h => h.at 0 rfl) rfl) rfl rfl ?_
        refine l_q rfl (q_move rfl rfl) rfl rfl ?_
        refine l_q rfl (q_lss rfl rfl rfl) rfl rfl ?_
        refine l_q rfl (q_move rfl rfl) rfl rfl ?_
        refine l_q rfl (q_move rfl rfl) rfl rfl ?_
        refine l_q rfl (q_lenV rfl Try.underlying28 rfl (fun _ h => h.rd 2 rfl)) rfl rfl ?_
        refine l_q rfl (q_lss rfl rfl rfl) rfl rfl ?_
        refine l_q rfl (q_neb rfl Try.underlying4 rfl rfl) rfl rfl ?_
        refine l_nil ?_
        refine k_then ?_
        refine Pre.setB (t := 78) (c := false) rfl (by rw [show decide (x.from' < (k : Int)) = false from decide_eq_false (by omega), show decide ((i : Int) < (F.length : Int)) = false from decide_eq_false (by omega)]; rfl) ?_
        refine c_false rfl ?_
        refine c_skip ?_
        refine k_then ?_
        refine c_seq ?_
        refine c_seq ?_
        refine c_region _ rfl ?_
        refine l_q rfl (q_move rfl rfl) rfl rfl ?_
        refine l_q rfl (q_move rfl rfl) rfl rfl ?_
        refine l_q rfl (q_lenV rfl Try.underlying28 rfl (fun _ h => h.rd 2 rfl)) rfl rfl ?_
        refine l_q rfl (q_geq rfl rfl rfl) rfl rfl ?_
        refine l_nil ?_
        refine k_then ?_
        refine Pre.setB (t := 82) (c := true) rfl (decide_eq_true (by omega)) ?_
        refine c_true rfl ?_
        refine c_exit ?_
        refine k_then_exit ?_
        refine k_block_exit ?_
        refine k_then ?_
        refine c_region _ rfl ?_
        refine l_q rfl (q_move rfl rfl) rfl rfl ?_
        refine l_q rfl (q_inc rfl rfl rfl (by omega)) rfl rfl ?_
        refine l_q rfl (q_assign rfl rfl) rfl rfl ?_
        refine l_nil ?_
        refine drop0 ?_
        refine pull1 ?_
        refine pull1 ?_
        exact k_round (i + 1) (by omega) (by omega) (Sub.cons rfl (Sub.cons rfl (Sub.cons rfl (Sub.cons rfl (Sub.nil))))) (fun _ h => h)
    · simp only [decide_eq_true_eq, decide_eq_false_iff_not, Bool.not_eq_true', Bool.not_eq_false'] at h1
      refine c_false rfl ?_
      refine c_exit ?_
      refine k_then_exit ?_
      refine k_then_exit ?_
      refine k_block_exit ?_
      refine k_then ?_
      refine c_seq ?_
      refine c_region _ rfl ?_
      refine l_e rfl ?_
      refine e_call_00 (awake_spec) rfl rfl rfl Try.call20 rfl (fun _ _ => trivial) ?_
      intro _ _
      refine l_q rfl (q_assign rfl rfl) rfl rfl ?_
      refine l_nil ?_
      refine k_then ?_
      refine c_ret ?_
      refine r_one rfl rfl ?_
      exact fun _ h => ⟨(), rfl, trivial, h.nothing⟩
theorem histFronts_walk (w : World) (a0 : Int) (w0 : (Lit.int .i64 a0).wf = true) (A1 : Option Addr) (c1 : Nat) (z1 : List Int) (rd1 : Rd w w.heap.size A1 (z1.map (.int .i64))) (l1 : z1.length ≤ c1) (m1 : c1 ≤ maxLen) (w1 : ∀ z ∈ z1, (Lit.int .i64 z).wf = true) (A2 : Option Addr) (c2 : Nat) (z2 : List Int) (rd2 : Rd w w.heap.size A2 (z2.map (.int .i64))) (l2 : z2.length ≤ c2) (m2 : c2 ≤ maxLen) (w2 : ∀ z ∈ z2, (Lit.int .i64 z).wf = true) (a3 : Int) (w3 : (Lit.int .i64 a3).wf = true) :
    Calls Try.prog 5 #[.int .i64 a0, .slice A1 z1.length c1, .slice A2 z2.length c2, .int .i64 a3] w fun e w' => e = .returned (.bool true) ∧ Below w.heap.size w w' := by
  have f1 := flat_one' (encI .i64) (Value.int .i64) (fun _ => rfl) z1
  have f2 := flat_one' (encI .i64) (Value.int .i64) (fun _ => rfl) z2
  rw [← f1] at rd1
  rw [← f2] at rd2
  exact con_walk (fronts_spec a0 z1 z2 a3) ⟨rdv_of rd1 l1, rdv_of rd2 l2⟩
end Go.Proofs.Ythfdmeikpbkpaaa
