/- MsgAdds, walked -/
import Derived.Test.YtmnokoepimhelaaN2
set_option linter.unusedVariables false
set_option linter.unusedSimpArgs false
namespace Go.Proofs.Ytmnokoepimhelaa
open Go.Sep Go.RowKit

set_option maxRecDepth 100000 in
set_option maxHeartbeats 1000000 in
theorem adds_spec {vl : Value} (l : List Int) (k : Int) (hl : ∀ z ∈ l, (Lit.int .u64 z).wf = true) : Con Try.prog 7 [vl, .int .i64 k] (fun w => RdV w vl (encI .u64) l) [] (fun _ : Unit => .bool true) (fun _ => True) (fun _ => []) := by
  intro w hE hH
  refine enter (n := 88) (vs := [vl, .int .i64 k]) (St w [] []) Try.func7 rfl rfl rfl (St.init hH) ?_
  refine c_seq ?_
  refine c_region _ rfl ?_
  refine l_q rfl (q_assign rfl rfl) rfl rfl ?_
  refine l_nil ?_
  refine k_then ?_
  refine c_seq ?_
  refine c_seq ?_
  refine c_region _ rfl ?_
  refine l_q rfl (q_move rfl rfl) rfl rfl ?_
  refine l_q rfl (q_lenV rfl Try.underlying44 rfl (fun _ h => hE.keep h (by simp [dom]))) rfl rfl ?_
  refine l_q rfl (q_gtr rfl rfl rfl) rfl rfl ?_
  refine l_q rfl (q_move rfl rfl) rfl rfl ?_
  refine Pre.caseB 14 rfl (fun h1 => ?_) (fun h1 => ?_)
  · try simp only [decide_eq_true_eq, decide_eq_false_iff_not, Bool.not_eq_true', Bool.not_eq_false'] at h1
    refine l_not rfl rfl rfl ?_
    refine l_not rfl rfl rfl ?_
    refine l_not rfl rfl rfl ?_
    refine l_q rfl (q_pick_t rfl rfl rfl) rfl rfl ?_
    refine l_nil ?_
    refine k_then ?_
    refine c_true rfl ?_
    refine c_seq ?_
    refine c_region _ rfl ?_
    refine l_e rfl ?_
    refine e_call_00 (awake_spec) rfl rfl rfl Try.call14 rfl (fun _ _ => trivial) ?_
    intro _ _
    refine l_q rfl (q_assign rfl rfl) rfl rfl ?_
    refine l_nil ?_
    refine k_then ?_
    refine c_ret ?_
    refine k_then_ret ?_
    refine r_one rfl rfl ?_
    exact fun _ h => ⟨(), rfl, trivial, h.nothing⟩
  · try simp only [decide_eq_true_eq, decide_eq_false_iff_not, Bool.not_eq_true', Bool.not_eq_false'] at h1
    refine l_q rfl (q_move rfl rfl) rfl rfl ?_
    refine l_q rfl (q_lenV rfl Try.underlying44 rfl (fun _ h => hE.keep h (by simp [dom]))) rfl rfl ?_
    refine l_q rfl (q_eql rfl rfl rfl) rfl rfl ?_
    refine l_q rfl (q_pick_f rfl rfl rfl) rfl rfl ?_
    refine l_nil ?_
    refine k_then ?_
    refine Pre.caseB 18 rfl (fun h2 => ?_) (fun h2 => ?_)
    · try simp only [decide_eq_true_eq, decide_eq_false_iff_not, Bool.not_eq_true', Bool.not_eq_false'] at h2
      refine c_true rfl ?_
      refine c_seq ?_
      refine c_region _ rfl ?_
      refine l_e rfl ?_
      refine e_call_00 (awake_spec) rfl rfl rfl Try.call14 rfl (fun _ _ => trivial) ?_
      intro _ _
      refine l_q rfl (q_assign rfl rfl) rfl rfl ?_
      refine l_nil ?_
      refine k_then ?_
      refine c_ret ?_
      refine k_then_ret ?_
      refine r_one rfl rfl ?_
      exact fun _ h => ⟨(), rfl, trivial, h.nothing⟩
    · try simp only [decide_eq_true_eq, decide_eq_false_iff_not, Bool.not_eq_true', Bool.not_eq_false'] at h2
      obtain ⟨z0, hz0, wz0⟩ := get64 hl (show 0 < l.length by omega)
      refine c_false rfl ?_
      refine c_skip ?_
      refine k_then ?_
      refine c_seq ?_
      refine c_region _ rfl ?_
      refine l_q rfl (q_move rfl rfl) rfl rfl ?_
      refine l_e rfl ?_
      refine e_call_00 (key_spec _) rfl rfl rfl Try.call21 rfl (fun _ _ => trivial) ?_
      intro ky hky
      refine l_e rfl ?_
      refine e_alloc rfl rfl rfl Try.zeroValue25 ?_
      intro bkat
      refine cells_eq (show _ = (kv0 8).c from rfl) ?_
      refine l_e rfl ?_
      refine e_storeAgg rfl rfl Try.sizeOf25 rfl rfl (Kv.c_len _) (Kv.one _) (by simp only [Kv.c_len, Ms.c_len]; decide) ?_
      refine cells_eq (show _ = ky.c from Sep.splice_all (by simp only [Kv.c_len, Ms.c_len])) ?_
      refine l_nil ?_
      refine k_then ?_
      refine c_seq ?_
      refine c_draw [(0, some true), (1, some true), (2, some true), (3, some true), (4, some true), (5, some false), (6, none)] [6] [(_, some true), (_, some true), (_, some true), (_, some true), (_, some true), (_, some false), (_, none)] (fun w2 => (cellsE bkat 25 ky.c).at w2 ∧ RdV w2 vl (encI .u64) l) (blind_then blind_body) rfl (by kernel_rfl) (by kernel_rfl) rfl rfl rfl (by kernel_rfl) St.drawn (fun _ h => ⟨h.at 0 rfl, hE.keep h (by simp)⟩) ?_
      refine d_q rfl (q_loadCAgg (ky.c) rfl Try.isAgg25 Try.sizeOf25 rfl (fun _ h => h.1) (kv_whole _) (Kv.c_len _)) rfl rfl ?_
      refine d_q rfl (q_move rfl rfl) rfl rfl ?_
      refine d_q rfl (q_indexV 0 rfl Try.underlying44 Try.sizeOf22 rfl (fun _ h => h.2) rfl rfl (by omega)) rfl rfl ?_
      refine d_q rfl (q_loadV 0 0 rfl Try.isAgg22 rfl rfl (fun _ h => h.2) hz0 rfl) rfl rfl ?_
      refine d_q rfl (q_build ((addM ky 0 (by decide) z0 wz0).c) rfl rfl (fun w => build024 _ _ _ (by decide) wz0 w)) rfl rfl ?_
      refine d_e rfl ?_
      refine e_alloc rfl rfl rfl Try.zeroValue30 ?_
      intro bkm
      refine cells_eq (show _ = ms0.c from rfl) ?_
      refine d_held (fun _ h => ⟨h.at 1 rfl, hE.keep h (by simp)⟩) ?_
      refine d_t rfl ?_
      refine e_storeAgg rfl rfl Try.sizeOf30 rfl rfl (Ms.c_len _) (Ms.one _) (by simp only [Kv.c_len, Ms.c_len]; decide) ?_
      refine cells_eq (show _ = (addM ky 0 (by decide) z0 wz0).c from Sep.splice_all (by simp only [Kv.c_len, Ms.c_len])) ?_
      refine d_nil ?_
      refine k_then ?_
      refine c_seq ?_
      refine c_region _ rfl ?_
      refine l_q rfl (q_move rfl rfl) rfl rfl ?_
      refine l_q rfl (q_indexV 0 rfl Try.underlying44 Try.sizeOf22 rfl (fun _ h => hE.keep h (by simp)) rfl rfl (by omega)) rfl rfl ?_
      refine l_q rfl (q_loadV 0 0 rfl Try.isAgg22 rfl rfl (fun _ h => hE.keep h (by simp)) hz0 rfl) rfl rfl ?_
      refine l_q rfl (q_assign rfl rfl) rfl rfl ?_
      refine l_nil ?_
      refine k_then ?_
      refine c_seq ?_
      refine c_seq ?_
      refine c_region _ rfl ?_
      refine l_q rfl (q_assign rfl rfl) rfl rfl ?_
      refine l_nil ?_
      refine k_then ?_
      refine c_block ?_
      refine pull1 ?_
      refine pull1 ?_
      refine c_loop2 (fun (i : Nat) (s : {s : Int // (Lit.int .u64 s).wf = true}) => [(0, vl), (5, .pointer (some ⟨bkat, 0, none⟩)), (6, .pointer (some ⟨bkm, 0, none⟩)), (7, .int .u64 s.1), (8, .int .i64 (i : Int))]) (fun (i : Nat) (s : {s : Int // (Lit.int .u64 s).wf = true}) => St w [] [cellsE bkm 30 (addM ky (min (i - 1) 100) (by omega) s.1 s.2).c, cellsE bkat 25 ky.c]) (fun (i : Nat) (s : {s : Int // (Lit.int .u64 s).wf = true}) => 1 ≤ i ∧ i ≤ l.length) (fun (i : Nat) (s : {s : Int // (Lit.int .u64 s).wf = true}) => l.length - i) (1) (⟨z0, wz0⟩) ⟨Nat.le_refl _, by omega⟩ (Sub.cons rfl (Sub.cons rfl (Sub.cons rfl (Sub.cons rfl (Sub.cons rfl (Sub.nil)))))) (fun _ h => h) ?_
      intro i s hi
      refine c_seq ?_
      refine c_seq ?_
      obtain ⟨hi1, hi2⟩ := hi
      refine c_region _ rfl ?_
      refine l_q rfl (q_move rfl rfl) rfl rfl ?_
      refine l_q rfl (q_move rfl rfl) rfl rfl ?_
      refine l_q rfl (q_lenV rfl Try.underlying44 rfl (fun _ h => hE.keep h (by simp))) rfl rfl ?_
      refine l_q rfl (q_lss rfl rfl rfl) rfl rfl ?_
      refine l_nil ?_
      refine k_then ?_
      refine Pre.caseB 33 rfl (fun hil => ?_) (fun hil => ?_)
      · try simp only [decide_eq_true_eq, decide_eq_false_iff_not, Bool.not_eq_true', Bool.not_eq_false'] at hil
        obtain ⟨z, hzi, wz⟩ := get64 hl (show i < l.length by omega)
        refine c_true rfl ?_
        refine c_skip ?_
        refine k_then ?_
        refine c_seq ?_
        refine c_block ?_
        refine c_seq ?_
        refine c_draw [(0, some true), (1, some true), (2, some true), (3, some true), (4, some true), (5, some true), (6, some true), (7, some true), (8, some true), (9, none), (10, none)] [9, 10] [(_, some true), (_, some true), (_, some true), (_, some true), (_, some true), (_, some true), (_, some true), (_, some true), (_, some true), (_, none), (_, none)] (fun w2 => (cellsE bkm 30 (addM ky (min (i - 1) 100) (by omega) s.1 s.2).c).at w2 ∧ (cellsE bkat 25 ky.c).at w2 ∧ RdV w2 vl (encI .u64) l) (blind_then (blind_block (blind_then (blind_then (blind_block (blind_then blind_body)))))) rfl (by kernel_rfl) (by kernel_rfl) rfl rfl rfl (by kernel_rfl) St.drawn (fun _ h => ⟨h.at 0 rfl, h.at 1 rfl, hE.keep h (by simp)⟩) ?_
        refine d_q rfl (q_loadCAgg ((addM ky (min (i - 1) 100) (by omega) s.1 s.2).c) rfl Try.isAgg30 Try.sizeOf30 rfl (fun _ h => h.1) (ms_whole _) (Ms.c_len _)) rfl rfl ?_
        refine d_q rfl (q_move rfl rfl) rfl rfl ?_
        refine d_q rfl (q_conv_in rfl Try.underlying3 Try.underlying22 rfl (wrapu64_in (by omega))) rfl rfl ?_
        refine d_q rfl (q_loadCAgg (ky.c) rfl Try.isAgg25 Try.sizeOf25 rfl (fun _ h => h.2.1) (kv_whole _) (Kv.c_len _)) rfl rfl ?_
        refine d_q rfl (q_move rfl rfl) rfl rfl ?_
        refine d_q rfl (q_move rfl rfl) rfl rfl ?_
        refine d_q rfl (q_indexV i rfl Try.underlying44 Try.sizeOf22 rfl (fun _ h => h.2.2) rfl rfl (by omega)) rfl rfl ?_
        refine d_q rfl (q_loadV i 0 rfl Try.isAgg22 rfl rfl (fun _ h => h.2.2) hzi rfl) rfl rfl ?_
        refine d_q rfl (q_build ((addM ky i (by omega) z wz).c) rfl rfl (fun w => build4 _ _ _ _ (by decide) (wf_seq (by omega)) wz w)) rfl rfl ?_
        refine d_t rfl ?_
        refine e_call_00 (mcompose_spec _ _) rfl rfl rfl Try.call17 rfl (fun _ _ => trivial) ?_
        intro _ _
        rw [add_co ky (i := min (i - 1) 100) (j := i) (by omega) (by omega) s.2 wz]
        refine d_t rfl ?_
        refine e_storeAgg rfl rfl Try.sizeOf30 rfl rfl (Ms.c_len _) (Ms.one _) (by simp only [Kv.c_len, Ms.c_len]; decide) ?_
        refine cells_eq (show _ = (addM ky i (by omega) (IntKind.u64.wrap (s.1 + z)) (wf_wrap _)).c from Sep.splice_all (by simp only [Kv.c_len, Ms.c_len])) ?_
        refine d_nil ?_
        refine k_then ?_
        refine c_region _ rfl ?_
        refine l_q rfl (q_move rfl rfl) rfl rfl ?_
        refine l_q rfl (q_move rfl rfl) rfl rfl ?_
        refine l_q rfl (q_move rfl rfl) rfl rfl ?_
        refine l_q rfl (q_indexV i rfl Try.underlying44 Try.sizeOf22 rfl (fun _ h => hE.keep h (by simp)) rfl rfl (by omega)) rfl rfl ?_
        refine l_q rfl (q_loadV i 0 rfl Try.isAgg22 rfl rfl (fun _ h => hE.keep h (by simp)) hzi rfl) rfl rfl ?_
        refine l_q rfl (q_add rfl rfl rfl) rfl rfl ?_
        refine l_q rfl (q_assign rfl rfl) rfl rfl ?_
        refine l_nil ?_
        refine k_block ?_
        refine k_then ?_
        refine c_region _ rfl ?_
        refine l_q rfl (q_move rfl rfl) rfl rfl ?_
        refine l_q rfl (q_inc rfl rfl rfl (by omega)) rfl rfl ?_
        refine l_q rfl (q_assign rfl rfl) rfl rfl ?_
        refine l_nil ?_
        have hmi : min (i + 1 - 1) 100 = i := by omega
        exact k_round ((i + 1, ⟨IntKind.u64.wrap (s.1 + z), wf_wrap _⟩)) (by dsimp only; omega) ⟨by dsimp only; omega, by dsimp only; omega⟩ (Sub.cons rfl (Sub.cons rfl (Sub.cons rfl (Sub.cons rfl (Sub.cons rfl (Sub.nil)))))) (fun _ h => by simp only [hmi]; exact h)
      · try simp only [decide_eq_true_eq, decide_eq_false_iff_not, Bool.not_eq_true', Bool.not_eq_false'] at hil
        have hie : i = l.length := by omega
        subst hie
        refine c_false rfl ?_
        refine c_exit ?_
        refine k_then_exit ?_
        refine k_then_exit ?_
        refine k_block_exit ?_
        refine k_then ?_
        refine c_seq ?_
        refine c_region _ rfl ?_
        refine l_q rfl (q_build ((kv0 16).c) rfl rfl (fun w => by kernel_rfl)) rfl rfl ?_
        refine l_q rfl (q_loadCAgg ((addM ky (min (l.length - 1) 100) (by omega) s.1 s.2).c) rfl Try.isAgg30 Try.sizeOf30 rfl (fun _ h => h.at 0 rfl) (ms_whole _) (Ms.c_len _)) rfl rfl ?_
        refine l_e rfl ?_
        refine e_call_00 (mapply_spec _ _ _) rfl rfl rfl Try.call15 rfl (fun _ _ => trivial) ?_
        intro _ _
        rw [add_ap ky (i := min (l.length - 1) 100) (by omega) s.2]
        refine l_q rfl (q_move rfl rfl) rfl rfl ?_
        refine l_q rfl (q_extract rfl rfl rfl) rfl rfl ?_
        refine l_q rfl (q_extract rfl rfl rfl) rfl rfl ?_
        refine l_e rfl ?_
        refine e_alloc rfl rfl rfl Try.zeroValue28 ?_
        intro bkv
        refine cells_eq (show _ = (kv0 16).c from rfl) ?_
        refine l_e rfl ?_
        refine e_storeAgg rfl rfl Try.sizeOf28 rfl rfl (Kv.c_len _) (Kv.one _) (by simp only [Kv.c_len, Ms.c_len]; decide) ?_
        refine cells_eq (show _ = (vfrom s.1).c from Sep.splice_all (by simp only [Kv.c_len, Ms.c_len])) ?_
        refine l_q rfl (q_assign rfl rfl) rfl rfl ?_
        refine l_nil ?_
        refine k_then ?_
        refine c_seq ?_
        refine c_draw [(0, some true), (1, some true), (2, some true), (3, some true), (4, some true), (5, some true), (6, some true), (7, some true), (8, some true), (9, some true), (10, some true), (11, some true), (12, some true), (13, some true), (14, some true), (15, some true), (16, some true), (17, some true), (18, some true), (19, some true), (20, some true), (21, some true), (22, some true), (23, some true), (24, some false), (25, some true), (26, some true), (27, some true), (28, some false), (29, some true), (30, some true)] [] [(_, some true), (_, some true), (_, some true), (_, some true), (_, some true), (_, some true), (_, some true), (_, some true), (_, some true), (_, some true), (_, some true), (_, some true), (_, some true), (_, some true), (_, some true), (_, some true), (_, some true), (_, some true), (_, some true), (_, some true), (_, some true), (_, some true), (_, some true), (_, some true), (_, some false), (_, some true), (_, some true), (_, some true), (_, some false), (_, some true), (_, some true)] (fun w2 => (cellsE bkm 30 (addM ky (min (l.length - 1) 100) (by omega) s.1 s.2).c).at w2 ∧ (cellsE bkv 28 (vfrom s.1).c).at w2 ∧ RdV w2 vl (encI .u64) l) (blind_then blind_body) rfl (by kernel_rfl) (by kernel_rfl) rfl rfl rfl (by kernel_rfl) St.drawn (fun _ h => ⟨h.at 1 rfl, h.at 0 rfl, hE.keep h (by simp)⟩) ?_
        refine d_q rfl (q_fieldAddr rfl Try.underlying30 rfl Try.sizeOf3 rfl rfl) rfl rfl ?_
        refine d_q rfl (q_loadC rfl Try.isAgg3 rfl (fun _ h => h.1) rfl) rfl rfl ?_
        refine d_q rfl (q_eql rfl rfl rfl) rfl rfl ?_
        refine d_q rfl (q_move rfl rfl) rfl rfl ?_
        refine Pre.setB (t := 61) (c := true) rfl (by rfl) ?_
        refine d_q rfl (q_fieldAddr rfl Try.underlying30 rfl Try.sizeOf22 rfl rfl) rfl rfl ?_
        refine d_q rfl (q_loadC rfl Try.isAgg22 rfl (fun _ h => h.1) (Ms.by_part _)) rfl rfl ?_
        refine d_q rfl (q_move rfl rfl) rfl rfl ?_
        refine d_q rfl (q_eql rfl rfl rfl) rfl rfl ?_
        refine d_q rfl (q_pick_t rfl rfl rfl) rfl rfl ?_
        refine d_q rfl (q_move rfl rfl) rfl rfl ?_
        refine Pre.setB (t := 67) (c := true) rfl (decide_eq_true rfl) ?_
        refine d_q rfl (q_fieldAddr rfl Try.underlying30 rfl Try.sizeOf22 rfl rfl) rfl rfl ?_
        refine d_q rfl (q_loadC rfl Try.isAgg22 rfl (fun _ h => h.1) rfl) rfl rfl ?_
        refine d_q rfl (q_move rfl rfl) rfl rfl ?_
        refine d_q rfl (q_lenV rfl Try.underlying44 rfl (fun _ h => h.2.2)) rfl rfl ?_
        refine d_q rfl (q_sub64 rfl rfl rfl (by omega)) rfl rfl ?_
        refine d_q rfl (q_conv_in rfl Try.underlying3 Try.underlying22 rfl (wrapu64_in (by omega))) rfl rfl ?_
        refine d_q rfl (q_eql rfl rfl rfl) rfl rfl ?_
        refine d_q rfl (q_pick_t rfl rfl rfl) rfl rfl ?_
        refine d_q rfl (q_move rfl rfl) rfl rfl ?_
        refine Pre.setB (t := 76) (c := true) rfl (decide_eq_true (by show ((min (l.length - 1) 100 : Nat) : Int) = _; omega)) ?_
        refine d_q rfl (q_move rfl rfl) rfl rfl ?_
        refine d_q rfl (q_pick_t rfl rfl rfl) rfl rfl ?_
        refine d_q rfl (q_move rfl rfl) rfl rfl ?_
        refine d_q rfl (q_loadCAgg ((vfrom s.1).c) rfl Try.isAgg28 Try.sizeOf28 rfl (fun _ h => h.2.1) (kv_whole _) (Kv.c_len _)) rfl rfl ?_
        refine d_q rfl (q_move rfl rfl) rfl rfl ?_
        refine d_e rfl ?_
        refine e_call_00 (rfrom_con s.1 (u64_bd s.2).1 (u64_bd s.2).2) rfl rfl rfl Try.call22 rfl (fun _ _ => trivial) ?_
        intro _ _
        refine d_held (fun _ h => ⟨h.at 1 rfl, h.at 0 rfl, hE.keep h (by simp)⟩) ?_
        refine d_q rfl (q_eqVl ((vfrom s.1)) ((vfrom s.1)) rfl rfl rfl) rfl rfl ?_
        refine d_q rfl (q_pick_t rfl rfl rfl) rfl rfl ?_
        refine d_q rfl (q_move rfl rfl) rfl rfl ?_
        refine Pre.setB (t := 85) (c := true) rfl (decide_eq_true rfl) ?_
        refine d_e rfl ?_
        refine e_call_00 (awake_spec) rfl rfl rfl Try.call14 rfl (fun _ _ => trivial) ?_
        intro _ _
        refine d_held (fun _ h => ⟨h.at 1 rfl, h.at 0 rfl, hE.keep h (by simp)⟩) ?_
        refine d_q rfl (q_pick_t rfl rfl rfl) rfl rfl ?_
        refine d_q rfl (q_assign rfl rfl) rfl rfl ?_
        refine d_nil ?_
        refine k_then ?_
        refine c_ret ?_
        refine r_one rfl rfl ?_
        exact fun _ h => ⟨(), rfl, trivial, h.nothing⟩
theorem msgAdds_walk (w : World) (A0 : Option Addr) (c0 : Nat) (z0 : List Int) (rd0 : Rd w w.heap.size A0 (z0.map (.int .u64))) (l0 : z0.length ≤ c0) (m0 : c0 ≤ maxLen) (w0 : ∀ z ∈ z0, (Lit.int .u64 z).wf = true) (a1 : Int) (w1 : (Lit.int .i64 a1).wf = true) :
    Calls Try.prog 7 #[.slice A0 z0.length c0, .int .i64 a1] w fun e w' => e = .returned (.bool true) ∧ Below w.heap.size w w' := by
  have f0 := flat_one' (encI .u64) (Value.int .u64) (fun _ => rfl) z0
  rw [← f0] at rd0
  exact con_walk (adds_spec z0 a1 w0) (rdv_of rd0 l0)
end Go.Proofs.Ytmnokoepimhelaa
