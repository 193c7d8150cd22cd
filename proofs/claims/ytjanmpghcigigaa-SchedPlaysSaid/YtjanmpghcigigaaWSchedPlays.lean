/- SchedPlays, walked -/
import Derived.Test.YtjanmpghcigigaaF
import Derived.Test.YtjanmpghcigigaaS9
set_option linter.unusedVariables false
set_option linter.unusedSimpArgs false
namespace Go.Proofs.Ytjanmpghcigigaa
open Go.Sep Go.RowKit

/-- A step. -/
structure Stp where
  what : Int
  id : Int
def encStp : Enc Stp := ⟨2, fun s => [.int .i64 s.what, .int .i64 s.id], fun _ => rfl, fun a u h => by simp at h; rcases h with rfl | rfl <;> rfl, by decide⟩
def kinds_1 : List Sc := [Sc.i .i64, Sc.i .i64]
theorem stp_one (cs : List Value) (h : Kinds kinds_1 cs) : ∃ a : Stp, cs = encStp.f a ∧ ((Lit.int .i64 a.what).wf = true ∧ (Lit.int .i64 a.id).wf = true) := by
  obtain ⟨hl, hk⟩ := h
  match cs, hl with
  | [u, v], _ =>
    obtain ⟨p, rfl, hp⟩ := hk 0 _ u rfl rfl
    obtain ⟨q, rfl, hq⟩ := hk 1 _ v rfl rfl
    exact ⟨⟨p, q⟩, rfl, hp, hq⟩

set_option maxRecDepth 100000 in
set_option maxHeartbeats 1000000 in
theorem plays_spec {va : Value} (n : Int) (hnw : (Lit.int .i64 n).wf = true) (l : List Stp) : Con Try.prog 4 [.int .i64 n, va] (fun w => RdV w va encStp l) [] (fun _ : Unit => .bool true) (fun _ => True) (fun _ => []) := by
  intro w hl hH
  by_cases hn : 1 ≤ n ∧ n ≤ 8
  · obtain ⟨k, rfl⟩ := Int.eq_ofNat_of_zero_le (show 0 ≤ n by omega)
    have h1 : 1 ≤ k := by omega
    have h8 : k ≤ 8 := by omega
    refine enter (n := 155) (vs := [.int .i64 (k : Int), va]) (St w [] []) Try.func4 rfl rfl rfl (St.init hH) ?_
    refine c_seq ?_
    refine c_region _ rfl ?_
    refine l_q rfl (q_assign rfl rfl) rfl rfl ?_
    refine l_nil ?_
    refine k_then ?_
    refine c_seq ?_
    refine c_region _ rfl ?_
    refine l_q rfl (q_move rfl rfl) rfl rfl ?_
    refine l_e rfl ?_
    refine e_call_01 (new_yes h1 h8) rfl rfl rfl Try.call9 rfl (fun _ _ => trivial) ?_
    intro b _
    refine l_q rfl (q_move rfl rfl) rfl rfl ?_
    refine l_q rfl (q_extract rfl rfl rfl) rfl rfl ?_
    refine l_q rfl (q_extract rfl rfl rfl) rfl rfl ?_
    refine l_q rfl (q_assign rfl rfl) rfl rfl ?_
    refine l_q rfl (q_assign rfl rfl) rfl rfl ?_
    refine l_nil ?_
    refine k_then ?_
    refine c_seq ?_
    refine c_region _ rfl ?_
    refine l_q rfl (q_move rfl rfl) rfl rfl ?_
    refine l_e rfl ?_
    refine e_call_04 (rnew_yes h1 h8) rfl rfl rfl Try.call15 rfl (fun _ _ => trivial) ?_
    intro q _
    refine l_q rfl (q_move rfl rfl) rfl rfl ?_
    refine l_q rfl (q_extract rfl rfl rfl) rfl rfl ?_
    refine l_q rfl (q_extract rfl rfl rfl) rfl rfl ?_
    refine l_q rfl (q_assign rfl rfl) rfl rfl ?_
    refine l_q rfl (q_assign rfl rfl) rfl rfl ?_
    refine l_nil ?_
    refine k_then ?_
    refine c_seq ?_
    refine c_seq ?_
    refine c_region _ rfl ?_
    refine l_q rfl (q_move rfl rfl) rfl rfl ?_
    refine l_q rfl (q_move rfl rfl) rfl rfl ?_
    refine l_q rfl (q_neq rfl rfl rfl) rfl rfl ?_
    refine l_q rfl (q_move rfl rfl) rfl rfl ?_
    refine Pre.setB (t := 29) (c := false) rfl (rfl) ?_
    refine l_q rfl (q_move rfl rfl) rfl rfl ?_
    refine l_q rfl (q_eqp rfl Try.underlying24 rfl rfl) rfl rfl ?_
    refine l_q rfl (q_move rfl rfl) rfl rfl ?_
    refine l_q rfl (q_eqp rfl Try.underlying35 rfl rfl) rfl rfl ?_
    refine l_q rfl (q_neb rfl Try.underlying4 rfl rfl) rfl rfl ?_
    refine l_q rfl (q_pick_f rfl rfl rfl) rfl rfl ?_
    refine l_nil ?_
    refine k_then ?_
    refine Pre.setB (t := 35) (c := false) rfl (rfl) ?_
    refine c_false rfl ?_
    refine c_skip ?_
    refine k_then ?_
    refine c_seq ?_
    refine c_seq ?_
    refine c_region _ rfl ?_
    refine l_q rfl (q_move rfl rfl) rfl rfl ?_
    refine l_q rfl (q_neq rfl rfl rfl) rfl rfl ?_
    refine l_q rfl (q_move rfl rfl) rfl rfl ?_
    refine Pre.setB (t := 38) (c := false) rfl (rfl) ?_
    refine l_q rfl (q_move rfl rfl) rfl rfl ?_
    refine l_q rfl (q_lenV rfl Try.underlying34 rfl (fun _ h => hl.keep h (by simp [dom]))) rfl rfl ?_
    refine l_q rfl (q_gtr rfl rfl rfl) rfl rfl ?_
    refine l_q rfl (q_pick_f rfl rfl rfl) rfl rfl ?_
    refine l_nil ?_
    refine k_then ?_
    refine Pre.caseB 42 rfl (fun hlen => ?_) (fun hlen => ?_)
    · simp only [decide_eq_true_eq, decide_eq_false_iff_not, Bool.not_eq_true', Bool.not_eq_false'] at hlen
      refine c_true rfl ?_
      refine c_seq ?_
      refine c_region _ rfl ?_
      refine l_e rfl ?_
      refine e_call_00 (awake_spec) rfl rfl rfl Try.call14 rfl (fun _ _ => trivial) ?_
      intro _ _
      refine l_q rfl (q_assign rfl rfl) rfl rfl ?_
      refine l_nil ?_
      refine k_then ?_
      refine c_ret ?_
      refine k_then_ret ?_
      refine r_one rfl rfl ?_
      exact fun _ h => ⟨(), rfl, trivial, h.nothing⟩
    · simp only [decide_eq_true_eq, decide_eq_false_iff_not, Bool.not_eq_true', Bool.not_eq_false'] at hlen
      refine c_false rfl ?_
      refine c_skip ?_
      refine k_then ?_
      refine c_seq ?_
      refine c_seq ?_
      refine c_region _ rfl ?_
      refine l_q rfl (q_assign rfl rfl) rfl rfl ?_
      refine l_nil ?_
      refine k_then ?_
      refine c_block ?_
      refine pull3 ?_
      refine pull3 ?_
      refine pull3 ?_
      refine pull3 ?_
      refine pull4 ?_
      have hm0 := new_ok h1 h8
      refine c_loop2 (fun (i : Nat) (m : Tab) => [(0, .int .i64 (k : Int)), (1, va), (5, .pointer (some ⟨b, 0, none⟩)), (7, .pointer (some ⟨q.1, 0, none⟩)), (9, .int .i64 (i : Int))]) (fun (i : Nat) (m : Tab) => St w [] (cellsE b 55 (tabC m) :: RT q.1 q.2.1 q.2.2.1 q.2.2.2 m)) (fun (i : Nat) (m : Tab) => i ≤ l.length ∧ m.Ok (9 * i) ∧ m.n = k) (fun (i : Nat) (m : Tab) => l.length - i) (0) (newM k) ⟨Nat.zero_le _, hm0, rfl⟩ (Sub.cons rfl (Sub.cons rfl (Sub.cons rfl (Sub.cons rfl (Sub.cons rfl (Sub.nil)))))) (fun _ h => h) ?_
      intro i m hp
      refine c_seq ?_
      refine c_seq ?_
      obtain ⟨hi, hm, hmn⟩ := hp
      refine c_region _ rfl ?_
      refine l_q rfl (q_move rfl rfl) rfl rfl ?_
      refine l_q rfl (q_move rfl rfl) rfl rfl ?_
      refine l_q rfl (q_lenV rfl Try.underlying34 rfl (fun _ h => hl.keep h (by simp [dom]))) rfl rfl ?_
      refine l_q rfl (q_lss rfl rfl rfl) rfl rfl ?_
      refine l_nil ?_
      refine k_then ?_
      refine Pre.caseB 47 rfl (fun hi2 => ?_) (fun hi2 => ?_)
      · simp only [decide_eq_true_eq, decide_eq_false_iff_not, Bool.not_eq_true', Bool.not_eq_false'] at hi2
        obtain ⟨x, hx⟩ : ∃ x, l[i]? = some x := ⟨_, List.getElem?_eq_getElem (by omega)⟩
        refine c_true rfl ?_
        refine c_skip ?_
        refine k_then ?_
        refine c_seq ?_
        refine c_block ?_
        refine c_seq ?_
        refine c_region _ rfl ?_
        refine l_q rfl (q_move rfl rfl) rfl rfl ?_
        refine l_q rfl (q_move rfl rfl) rfl rfl ?_
        refine l_q rfl (q_indexV i rfl Try.underlying34 Try.sizeOf39 rfl (fun _ h => hl.keep h (by simp [dom])) rfl rfl (by omega)) rfl rfl ?_
        refine l_q rfl (q_fieldAddr rfl Try.underlying39 rfl Try.sizeOf3 rfl rfl) rfl rfl ?_
        refine l_q rfl (q_loadV i 1 rfl Try.isAgg3 rfl rfl (fun _ h => hl.keep h (by simp [dom])) hx rfl) rfl rfl ?_
        refine l_q rfl (q_assign rfl rfl) rfl rfl ?_
        refine l_nil ?_
        refine k_then ?_
        refine c_seq ?_
        refine c_seq ?_
        refine c_region _ rfl ?_
        refine l_q rfl (q_move rfl rfl) rfl rfl ?_
        refine l_q rfl (q_rem_nn rfl rfl rfl (by omega) (by omega)) rfl rfl ?_
        refine l_q rfl (q_gtr rfl rfl rfl) rfl rfl ?_
        refine l_nil ?_
        refine k_then ?_
        refine c_meet1 (fun (id : Int) => [(0, .int .i64 (k : Int)), (1, va), (5, .pointer (some ⟨b, 0, none⟩)), (7, .pointer (some ⟨q.1, 0, none⟩)), (9, .int .i64 (i : Int)), (10, .int .i64 id)]) (fun (id : Int) => St w [] (cellsE b 55 (tabC m) :: RT q.1 q.2.1 q.2.2.1 q.2.2.2 m)) (fun (id : Int) => True) ?_ ?_
        · refine Pre.caseB 57 rfl (fun h4 => ?_) (fun h4 => ?_)
          · simp only [decide_eq_true_eq, decide_eq_false_iff_not, Bool.not_eq_true', Bool.not_eq_false'] at h4
            refine c_true rfl ?_
            refine c_region _ rfl ?_
            refine l_q rfl (q_move rfl rfl) rfl rfl ?_
            refine l_q rfl (q_move rfl rfl) rfl rfl ?_
            refine l_q rfl (q_inc rfl rfl rfl (by omega)) rfl rfl ?_
            refine l_e rfl ?_
            refine e_call_00 (place_spec x.id ((k : Int) + 1) (by omega) (by omega)) rfl rfl rfl Try.call8 rfl (fun _ _ => trivial) ?_
            intro _ _
            refine l_q rfl (q_assign rfl rfl) rfl rfl ?_
            refine l_nil ?_
            exact k_meet (_) trivial (Sub.cons rfl (Sub.cons rfl (Sub.cons rfl (Sub.cons rfl (Sub.cons rfl (Sub.cons rfl (Sub.nil))))))) (fun _ h => h)
          · simp only [decide_eq_true_eq, decide_eq_false_iff_not, Bool.not_eq_true', Bool.not_eq_false'] at h4
            refine c_false rfl ?_
            refine c_skip ?_
            exact k_meet (_) trivial (Sub.cons rfl (Sub.cons rfl (Sub.cons rfl (Sub.cons rfl (Sub.cons rfl (Sub.cons rfl (Sub.nil))))))) (fun _ h => h)
        · intro id _
          refine c_seq ?_
          refine c_seq ?_
          refine c_region _ rfl ?_
          refine l_q rfl (q_move rfl rfl) rfl rfl ?_
          refine l_q rfl (q_move rfl rfl) rfl rfl ?_
          refine l_q rfl (q_indexV i rfl Try.underlying34 Try.sizeOf39 rfl (fun _ h => hl.keep h (by simp [dom])) rfl rfl (by omega)) rfl rfl ?_
          refine l_q rfl (q_fieldAddr rfl Try.underlying39 rfl Try.sizeOf3 rfl rfl) rfl rfl ?_
          refine l_q rfl (q_loadV i 0 rfl Try.isAgg3 rfl rfl (fun _ h => hl.keep h (by simp [dom])) hx rfl) rfl rfl ?_
          refine l_nil ?_
          refine k_then ?_
          refine c_meet1 (fun (m2 : Tab) => [(0, .int .i64 (k : Int)), (1, va), (5, .pointer (some ⟨b, 0, none⟩)), (7, .pointer (some ⟨q.1, 0, none⟩)), (9, .int .i64 (i : Int))]) (fun (m2 : Tab) => St w [] (cellsE b 55 (tabC m2) :: RT q.1 q.2.1 q.2.2.1 q.2.2.2 m2)) (fun (m2 : Tab) => m2.Ok (9 * i + 9) ∧ m2.n = k) ?_ ?_
          · refine c_block ?_
            refine c_seq ?_
            refine c_region _ rfl ?_
            refine l_q rfl (q_eql rfl rfl rfl) rfl rfl ?_
            refine l_q rfl (q_assign rfl rfl) rfl rfl ?_
            refine l_nil ?_
            refine k_then ?_
            refine Pre.caseB 87 rfl (fun w0 => ?_) (fun w0 => ?_)
            · simp only [decide_eq_true_eq, decide_eq_false_iff_not, Bool.not_eq_true', Bool.not_eq_false'] at w0
              refine c_true rfl ?_
              refine c_seq ?_
              refine c_region _ rfl ?_
              refine l_q rfl (q_move rfl rfl) rfl rfl ?_
              refine l_q rfl (q_move rfl rfl) rfl rfl ?_
              refine l_e rfl ?_
              refine e_call_11 (block_spec hm b id) rfl rfl rfl Try.call16 rfl (fun _ _ => trivial) ?_
              intro _ _
              refine l_nil ?_
              refine k_then ?_
              refine c_region _ rfl ?_
              refine l_q rfl (q_move rfl rfl) rfl rfl ?_
              refine l_q rfl (q_move rfl rfl) rfl rfl ?_
              refine pull4 ?_
              refine pull4 ?_
              refine pull4 ?_
              refine pull4 ?_
              refine l_e rfl ?_
              refine e_call_44 (rblock_spec hm q.1 q.2.1 q.2.2.1 q.2.2.2 id) rfl rfl rfl Try.call17 rfl (fun _ _ => trivial) ?_
              intro _ _
              refine l_nil ?_
              refine k_block ?_
              refine pull3 ?_
              refine pull3 ?_
              refine pull3 ?_
              refine pull3 ?_
              refine pull4 ?_
              exact k_meet (_) ⟨(turn_ok hm id 1).mono (by omega), (turn_n m id 1).trans hmn⟩ (Sub.cons rfl (Sub.cons rfl (Sub.cons rfl (Sub.cons rfl (Sub.cons rfl (Sub.nil)))))) (fun _ h => h)
            · simp only [decide_eq_true_eq, decide_eq_false_iff_not, Bool.not_eq_true', Bool.not_eq_false'] at w0
              refine c_false rfl ?_
              refine c_seq ?_
              refine c_region _ rfl ?_
              refine l_q rfl (q_eql rfl rfl rfl) rfl rfl ?_
              refine l_q rfl (q_assign rfl rfl) rfl rfl ?_
              refine l_nil ?_
              refine k_then ?_
              refine Pre.caseB 95 rfl (fun w1 => ?_) (fun w1 => ?_)
              · simp only [decide_eq_true_eq, decide_eq_false_iff_not, Bool.not_eq_true', Bool.not_eq_false'] at w1
                refine c_true rfl ?_
                refine c_seq ?_
                refine c_region _ rfl ?_
                refine l_q rfl (q_move rfl rfl) rfl rfl ?_
                refine l_q rfl (q_move rfl rfl) rfl rfl ?_
                refine l_e rfl ?_
                refine e_call_11 (wake_spec hm b id) rfl rfl rfl Try.call18 rfl (fun _ _ => trivial) ?_
                intro _ _
                refine l_nil ?_
                refine k_then ?_
                refine c_region _ rfl ?_
                refine l_q rfl (q_move rfl rfl) rfl rfl ?_
                refine l_q rfl (q_move rfl rfl) rfl rfl ?_
                refine pull4 ?_
                refine pull4 ?_
                refine pull4 ?_
                refine pull4 ?_
                refine l_e rfl ?_
                refine e_call_44 (rwake_spec hm q.1 q.2.1 q.2.2.1 q.2.2.2 id) rfl rfl rfl Try.call19 rfl (fun _ _ => trivial) ?_
                intro _ _
                refine l_nil ?_
                refine k_block ?_
                refine pull3 ?_
                refine pull3 ?_
                refine pull3 ?_
                refine pull3 ?_
                refine pull4 ?_
                exact k_meet (_) ⟨(turn_ok hm id 0).mono (by omega), (turn_n m id 0).trans hmn⟩ (Sub.cons rfl (Sub.cons rfl (Sub.cons rfl (Sub.cons rfl (Sub.cons rfl (Sub.nil)))))) (fun _ h => h)
              · simp only [decide_eq_true_eq, decide_eq_false_iff_not, Bool.not_eq_true', Bool.not_eq_false'] at w1
                refine c_false rfl ?_
                refine c_seq ?_
                refine c_region _ rfl ?_
                refine l_q rfl (q_eql rfl rfl rfl) rfl rfl ?_
                refine l_q rfl (q_assign rfl rfl) rfl rfl ?_
                refine l_nil ?_
                refine k_then ?_
                refine Pre.caseB 103 rfl (fun w2 => ?_) (fun w2 => ?_)
                · simp only [decide_eq_true_eq, decide_eq_false_iff_not, Bool.not_eq_true', Bool.not_eq_false'] at w2
                  refine c_true rfl ?_
                  refine c_seq ?_
                  refine c_region _ rfl ?_
                  refine l_q rfl (q_move rfl rfl) rfl rfl ?_
                  refine l_q rfl (q_move rfl rfl) rfl rfl ?_
                  refine l_e rfl ?_
                  refine e_call_11 (end_spec hm b id) rfl rfl rfl Try.call20 rfl (fun _ _ => trivial) ?_
                  intro _ _
                  refine l_nil ?_
                  refine k_then ?_
                  refine c_region _ rfl ?_
                  refine l_q rfl (q_move rfl rfl) rfl rfl ?_
                  refine l_q rfl (q_move rfl rfl) rfl rfl ?_
                  refine pull4 ?_
                  refine pull4 ?_
                  refine pull4 ?_
                  refine pull4 ?_
                  refine l_e rfl ?_
                  refine e_call_44 (rend_spec hm q.1 q.2.1 q.2.2.1 q.2.2.2 id) rfl rfl rfl Try.call21 rfl (fun _ _ => trivial) ?_
                  intro _ _
                  refine l_nil ?_
                  refine k_block ?_
                  refine pull3 ?_
                  refine pull3 ?_
                  refine pull3 ?_
                  refine pull3 ?_
                  refine pull4 ?_
                  exact k_meet (_) ⟨(turn_ok hm id 2).mono (by omega), (turn_n m id 2).trans hmn⟩ (Sub.cons rfl (Sub.cons rfl (Sub.cons rfl (Sub.cons rfl (Sub.cons rfl (Sub.nil)))))) (fun _ h => h)
                · simp only [decide_eq_true_eq, decide_eq_false_iff_not, Bool.not_eq_true', Bool.not_eq_false'] at w2
                  refine c_false rfl ?_
                  refine c_seq ?_
                  refine c_region _ rfl ?_
                  refine l_q rfl (q_move rfl rfl) rfl rfl ?_
                  refine l_q rfl (q_move rfl rfl) rfl rfl ?_
                  refine l_e rfl ?_
                  refine e_call_11 (pick_spec hm (by omega) b id) rfl rfl rfl Try.call10 rfl (fun _ _ => trivial) ?_
                  intro _ _
                  refine l_q rfl (q_move rfl rfl) rfl rfl ?_
                  refine l_q rfl (q_extract rfl rfl rfl) rfl rfl ?_
                  refine l_q rfl (q_extract rfl rfl rfl) rfl rfl ?_
                  refine l_q rfl (q_assign rfl rfl) rfl rfl ?_
                  refine l_q rfl (q_assign rfl rfl) rfl rfl ?_
                  refine l_nil ?_
                  refine k_then ?_
                  refine c_seq ?_
                  refine c_region _ rfl ?_
                  refine l_q rfl (q_move rfl rfl) rfl rfl ?_
                  refine l_q rfl (q_move rfl rfl) rfl rfl ?_
                  refine pull4 ?_
                  refine pull4 ?_
                  refine pull4 ?_
                  refine pull4 ?_
                  refine l_e rfl ?_
                  refine e_call_44 (rpick_spec hm q.1 q.2.1 q.2.2.1 q.2.2.2 (by omega) id) rfl rfl rfl Try.call22 rfl (fun _ _ => trivial) ?_
                  intro _ _
                  refine l_q rfl (q_move rfl rfl) rfl rfl ?_
                  refine l_q rfl (q_extract rfl rfl rfl) rfl rfl ?_
                  refine l_q rfl (q_extract rfl rfl rfl) rfl rfl ?_
                  refine l_q rfl (q_assign rfl rfl) rfl rfl ?_
                  refine l_q rfl (q_assign rfl rfl) rfl rfl ?_
                  refine l_nil ?_
                  refine k_then ?_
                  refine c_seq ?_
                  refine c_region _ rfl ?_
                  refine l_q rfl (q_move rfl rfl) rfl rfl ?_
                  refine l_q rfl (q_move rfl rfl) rfl rfl ?_
                  refine l_q rfl (q_neq rfl rfl rfl) rfl rfl ?_
                  refine l_q rfl (q_move rfl rfl) rfl rfl ?_
                  refine Pre.setB (t := 82) (c := false) rfl (by simp) ?_
                  refine l_q rfl (q_move rfl rfl) rfl rfl ?_
                  refine l_q rfl (q_move rfl rfl) rfl rfl ?_
                  refine l_q rfl (q_neb rfl Try.underlying4 rfl rfl) rfl rfl ?_
                  refine l_q rfl (q_pick_f rfl rfl rfl) rfl rfl ?_
                  refine l_nil ?_
                  refine k_then ?_
                  refine Pre.setB (t := 86) (c := false) rfl (by simp) ?_
                  refine c_false rfl ?_
                  refine c_skip ?_
                  refine k_block ?_
                  refine pull3 ?_
                  refine pull3 ?_
                  refine pull3 ?_
                  refine pull3 ?_
                  refine pull4 ?_
                  exact k_meet (_) ⟨pick_ok hm id, (pick_n m id).trans hmn⟩ (Sub.cons rfl (Sub.cons rfl (Sub.cons rfl (Sub.cons rfl (Sub.cons rfl (Sub.nil)))))) (fun _ h => h)
          · intro m2 hp2
            refine c_seq ?_
            refine c_seq ?_
            obtain ⟨hm2, hmn2⟩ := hp2
            refine c_draw [(0, some true), (2, some true), (1, some false), (3, some false), (4, some false), (5, some true), (6, some true), (7, some true), (9, some true), (8, some false), (10, some false), (11, some true), (12, some true), (13, some true), (14, some true), (16, some true), (17, some true), (18, some true), (19, some true), (15, some false), (20, some true), (21, some true)] [] [(_, some true), (_, some true), (_, some false), (_, some false), (_, some false), (_, some true), (_, some true), (_, some true), (_, some true), (_, some false), (_, some false), (_, some true), (_, some true), (_, some true), (_, some true), (_, some true), (_, some true), (_, some true), (_, some true), (_, some false), (_, some true), (_, some true)] (fun w => (cellsE q.1 45 [q.2.1, q.2.2.1, q.2.2.2, .int .i64 m2.worst]).at w) (blind_then (blind_then (blind_block (blind_then (blind_then (blind_block (blind_then blind_body))))))) rfl (by kernel_rfl) (by kernel_rfl) rfl rfl rfl (by kernel_rfl) St.drawn (fun _ h => h.at 1 rfl) ?_
            refine d_q rfl (q_move rfl rfl) rfl rfl ?_
            refine d_q rfl (q_move rfl rfl) rfl rfl ?_
            refine d_e rfl ?_
            refine e_call_12 (runnable_spec hm2 b) rfl rfl rfl Try.call24 rfl (fun _ _ => trivial) ?_
            intro v1 _
            refine d_held (fun _ h => h.at 2 rfl) ?_
            refine pull5 ?_
            refine pull5 ?_
            refine pull5 ?_
            refine pull5 ?_
            refine d_e rfl ?_
            refine e_call_45 (rrunnable_spec hm2 q.1 q.2.1 q.2.2.1 q.2.2.2) rfl rfl rfl Try.call25 rfl (fun _ _ => trivial) ?_
            intro v2 _
            refine d_held (fun _ h => h.at 1 rfl) ?_
            refine d_e rfl ?_
            refine e_call_00 (sameints_spec (nints (runM m2)) (nints (runM m2)) (by have := runM_len m2; have := nints_len (runM m2); omega)) rfl rfl rfl Try.call23 rfl (fun _ h => ⟨h.rd 5 rfl, h.rd 0 rfl⟩) ?_
            intro _ _
            refine d_held (fun _ h => h.at 1 rfl) ?_
            refine d_q rfl (q_not rfl rfl) rfl rfl ?_
            refine d_q rfl (q_move rfl rfl) rfl rfl ?_
            refine Pre.setB (t := 117) (c := false) rfl (by simp) ?_
            refine d_q rfl (q_move rfl rfl) rfl rfl ?_
            refine d_q rfl (q_move rfl rfl) rfl rfl ?_
            refine pull6 ?_
            refine d_e rfl ?_
            refine e_call_11 (ended_spec hm2 b) rfl rfl rfl Try.call26 rfl (fun _ _ => trivial) ?_
            intro _ _
            refine d_held (fun _ h => h.at 2 rfl) ?_
            refine pull5 ?_
            refine pull5 ?_
            refine pull5 ?_
            refine pull5 ?_
            refine d_e rfl ?_
            refine e_call_44 (rended_spec hm2 q.1 q.2.1 q.2.2.1 q.2.2.2) rfl rfl rfl Try.call27 rfl (fun _ _ => trivial) ?_
            intro _ _
            refine d_held (fun _ h => h.at 0 rfl) ?_
            refine d_q rfl (q_neb rfl Try.underlying4 rfl rfl) rfl rfl ?_
            refine d_q rfl (q_pick_f rfl rfl rfl) rfl rfl ?_
            refine d_q rfl (q_move rfl rfl) rfl rfl ?_
            refine Pre.setB (t := 124) (c := false) rfl (by simp) ?_
            refine d_q rfl (q_move rfl rfl) rfl rfl ?_
            refine d_q rfl (q_move rfl rfl) rfl rfl ?_
            refine d_q rfl (q_nilCheck rfl rfl) rfl rfl ?_
            refine d_q rfl (q_fieldAddr rfl Try.underlying45 rfl Try.sizeOf3 rfl rfl) rfl rfl ?_
            refine d_q rfl (q_loadC rfl Try.isAgg3 rfl (fun _ h => h) rfl) rfl rfl ?_
            refine pull4 ?_
            refine d_e rfl ?_
            refine e_call_11 (worst_spec hm2 b) rfl rfl rfl Try.call13 rfl (fun _ _ => trivial) ?_
            intro _ _
            refine d_held (fun _ h => h.at 1 rfl) ?_
            refine d_q rfl (q_neq rfl rfl rfl) rfl rfl ?_
            refine d_q rfl (q_pick_f rfl rfl rfl) rfl rfl ?_
            refine d_nil ?_
            refine k_then ?_
            refine Pre.setB (t := 132) (c := false) rfl (by simp) ?_
            refine c_false rfl ?_
            refine c_skip ?_
            refine k_then ?_
            refine c_seq ?_
            refine c_region _ rfl ?_
            refine l_q rfl (q_assign rfl rfl) rfl rfl ?_
            refine l_nil ?_
            refine k_then ?_
            refine c_block ?_
            refine pull6 ?_
            refine drop0 ?_
            refine pull5 ?_
            refine drop0 ?_
            refine pull4 ?_
            refine pull4 ?_
            refine pull4 ?_
            refine pull4 ?_
            refine pull4 ?_
            refine c_loop1 (fun (j : Int) => [(0, .int .i64 (k : Int)), (1, va), (5, .pointer (some ⟨b, 0, none⟩)), (7, .pointer (some ⟨q.1, 0, none⟩)), (9, .int .i64 (i : Int)), (15, .int .i64 j)]) (fun (j : Int) => St w [] (cellsE b 55 (tabC m2) :: RT q.1 q.2.1 q.2.2.1 q.2.2.2 m2)) (fun (j : Int) => -1 ≤ j ∧ j ≤ k + 1) (fun (j : Int) => (k + 1 - j).toNat) (-1) ⟨by omega, by omega⟩ (Sub.cons rfl (Sub.cons rfl (Sub.cons rfl (Sub.cons rfl (Sub.cons rfl (Sub.cons rfl (Sub.nil))))))) (fun _ h => h) ?_
            intro j hj
            refine c_seq ?_
            refine c_seq ?_
            refine c_region _ rfl ?_
            refine l_q rfl (q_move rfl rfl) rfl rfl ?_
            refine l_q rfl (q_move rfl rfl) rfl rfl ?_
            refine l_q rfl (q_leq rfl rfl rfl) rfl rfl ?_
            refine l_nil ?_
            refine k_then ?_
            refine Pre.caseB 135 rfl (fun hjk => ?_) (fun hjk => ?_)
            · simp only [decide_eq_true_eq, decide_eq_false_iff_not, Bool.not_eq_true', Bool.not_eq_false'] at hjk
              refine c_true rfl ?_
              refine c_skip ?_
              refine k_then ?_
              refine c_seq ?_
              refine c_block ?_
              refine c_seq ?_
              refine c_region _ rfl ?_
              refine l_q rfl (q_move rfl rfl) rfl rfl ?_
              refine l_q rfl (q_move rfl rfl) rfl rfl ?_
              refine l_e rfl ?_
              refine e_call_11 (picks_spec hm2 b j) rfl rfl rfl Try.call11 rfl (fun _ _ => trivial) ?_
              intro _ _
              refine l_q rfl (q_move rfl rfl) rfl rfl ?_
              refine l_q rfl (q_move rfl rfl) rfl rfl ?_
              refine pull4 ?_
              refine pull4 ?_
              refine pull4 ?_
              refine pull4 ?_
              refine l_e rfl ?_
              refine e_call_44 (rpicks_spec hm2 q.1 q.2.1 q.2.2.1 q.2.2.2 j) rfl rfl rfl Try.call28 rfl (fun _ _ => trivial) ?_
              intro _ _
              refine l_q rfl (q_neq rfl rfl rfl) rfl rfl ?_
              refine l_q rfl (q_move rfl rfl) rfl rfl ?_
              refine Pre.setB (t := 145) (c := false) rfl (by simp) ?_
              refine l_q rfl (q_move rfl rfl) rfl rfl ?_
              refine l_q rfl (q_move rfl rfl) rfl rfl ?_
              refine pull4 ?_
              refine l_e rfl ?_
              refine e_call_11 (wait_spec hm2 b j) rfl rfl rfl Try.call12 rfl (fun _ _ => trivial) ?_
              intro _ _
              refine l_q rfl (q_move rfl rfl) rfl rfl ?_
              refine l_q rfl (q_move rfl rfl) rfl rfl ?_
              refine pull4 ?_
              refine pull4 ?_
              refine pull4 ?_
              refine pull4 ?_
              refine l_e rfl ?_
              refine e_call_44 (rwait_spec hm2 q.1 q.2.1 q.2.2.1 q.2.2.2 j) rfl rfl rfl Try.call29 rfl (fun _ _ => trivial) ?_
              intro _ _
              refine l_q rfl (q_neq rfl rfl rfl) rfl rfl ?_
              refine l_q rfl (q_pick_f rfl rfl rfl) rfl rfl ?_
              refine l_nil ?_
              refine k_then ?_
              refine Pre.setB (t := 153) (c := false) rfl (by simp) ?_
              refine c_false rfl ?_
              refine c_skip ?_
              refine k_block ?_
              refine k_then ?_
              refine c_region _ rfl ?_
              refine l_q rfl (q_move rfl rfl) rfl rfl ?_
              refine l_q rfl (q_add64 rfl rfl rfl (by omega)) rfl rfl ?_
              refine l_q rfl (q_assign rfl rfl) rfl rfl ?_
              refine l_nil ?_
              refine pull3 ?_
              refine pull3 ?_
              refine pull3 ?_
              refine pull3 ?_
              refine pull4 ?_
              exact k_round (j + 1) (by omega) ⟨by omega, by omega⟩ (Sub.cons rfl (Sub.cons rfl (Sub.cons rfl (Sub.cons rfl (Sub.cons rfl (Sub.cons rfl (Sub.nil))))))) (fun _ h => h)
            · simp only [decide_eq_true_eq, decide_eq_false_iff_not, Bool.not_eq_true', Bool.not_eq_false'] at hjk
              refine c_false rfl ?_
              refine c_exit ?_
              refine k_then_exit ?_
              refine k_then_exit ?_
              refine k_block_exit ?_
              refine k_block ?_
              refine k_then ?_
              refine c_region _ rfl ?_
              refine l_q rfl (q_move rfl rfl) rfl rfl ?_
              refine l_q rfl (q_inc rfl rfl rfl (by omega)) rfl rfl ?_
              refine l_q rfl (q_assign rfl rfl) rfl rfl ?_
              refine l_nil ?_
              exact k_round ((i + 1, m2)) (by dsimp only; omega) ⟨by dsimp only; omega, hm2.mono (by dsimp only; omega), hmn2⟩ (Sub.cons rfl (Sub.cons rfl (Sub.cons rfl (Sub.cons rfl (Sub.cons rfl (Sub.nil)))))) (fun _ h => h)
      · simp only [decide_eq_true_eq, decide_eq_false_iff_not, Bool.not_eq_true', Bool.not_eq_false'] at hi2
        refine c_false rfl ?_
        refine c_exit ?_
        refine k_then_exit ?_
        refine k_then_exit ?_
        refine k_block_exit ?_
        refine k_then ?_
        refine c_seq ?_
        refine c_region _ rfl ?_
        refine l_e rfl ?_
        refine e_call_00 (awake_spec) rfl rfl rfl Try.call14 rfl (fun _ _ => trivial) ?_
        intro _ _
        refine l_q rfl (q_assign rfl rfl) rfl rfl ?_
        refine l_nil ?_
        refine k_then ?_
        refine c_ret ?_
        refine r_one rfl rfl ?_
        exact fun _ h => ⟨(), rfl, trivial, h.nothing⟩
  · refine enter (n := 155) (vs := [.int .i64 n, va]) (St w [] []) Try.func4 rfl rfl rfl (St.init hH) ?_
    refine c_seq ?_
    refine c_region _ rfl ?_
    refine l_q rfl (q_assign rfl rfl) rfl rfl ?_
    refine l_nil ?_
    refine k_then ?_
    refine c_seq ?_
    refine c_region _ rfl ?_
    refine l_q rfl (q_move rfl rfl) rfl rfl ?_
    refine l_e rfl ?_
    refine e_call_00 (new_no hn) rfl rfl rfl Try.call9 rfl (fun _ _ => trivial) ?_
    intro _ _
    refine l_q rfl (q_move rfl rfl) rfl rfl ?_
    refine l_q rfl (q_extract rfl rfl rfl) rfl rfl ?_
    refine l_q rfl (q_extract rfl rfl rfl) rfl rfl ?_
    refine l_q rfl (q_assign rfl rfl) rfl rfl ?_
    refine l_q rfl (q_assign rfl rfl) rfl rfl ?_
    refine l_nil ?_
    refine k_then ?_
    refine c_seq ?_
    refine c_region _ rfl ?_
    refine l_q rfl (q_move rfl rfl) rfl rfl ?_
    refine l_e rfl ?_
    refine e_call_00 (rnew_no hn) rfl rfl rfl Try.call15 rfl (fun _ _ => trivial) ?_
    intro _ _
    refine l_q rfl (q_move rfl rfl) rfl rfl ?_
    refine l_q rfl (q_extract rfl rfl rfl) rfl rfl ?_
    refine l_q rfl (q_extract rfl rfl rfl) rfl rfl ?_
    refine l_q rfl (q_assign rfl rfl) rfl rfl ?_
    refine l_q rfl (q_assign rfl rfl) rfl rfl ?_
    refine l_nil ?_
    refine k_then ?_
    refine c_seq ?_
    refine c_seq ?_
    refine c_region _ rfl ?_
    refine l_q rfl (q_move rfl rfl) rfl rfl ?_
    refine l_q rfl (q_move rfl rfl) rfl rfl ?_
    refine l_q rfl (q_neq rfl rfl rfl) rfl rfl ?_
    refine l_q rfl (q_move rfl rfl) rfl rfl ?_
    refine Pre.setB (t := 29) (c := false) rfl (rfl) ?_
    refine l_q rfl (q_move rfl rfl) rfl rfl ?_
    refine l_q rfl (q_eqp rfl Try.underlying24 rfl rfl) rfl rfl ?_
    refine l_q rfl (q_move rfl rfl) rfl rfl ?_
    refine l_q rfl (q_eqp rfl Try.underlying35 rfl rfl) rfl rfl ?_
    refine l_q rfl (q_neb rfl Try.underlying4 rfl rfl) rfl rfl ?_
    refine l_q rfl (q_pick_f rfl rfl rfl) rfl rfl ?_
    refine l_nil ?_
    refine k_then ?_
    refine Pre.setB (t := 35) (c := false) rfl (rfl) ?_
    refine c_false rfl ?_
    refine c_skip ?_
    refine k_then ?_
    refine c_seq ?_
    refine c_seq ?_
    refine c_region _ rfl ?_
    refine l_q rfl (q_move rfl rfl) rfl rfl ?_
    refine l_q rfl (q_neq rfl rfl rfl) rfl rfl ?_
    refine l_q rfl (q_move rfl rfl) rfl rfl ?_
    refine Pre.setB (t := 38) (c := true) rfl (rfl) ?_
    refine l_not rfl rfl rfl ?_
    refine l_not rfl rfl rfl ?_
    refine l_not rfl rfl rfl ?_
    refine l_q rfl (q_pick_t rfl rfl rfl) rfl rfl ?_
    refine l_nil ?_
    refine k_then ?_
    refine c_true rfl ?_
    refine c_seq ?_
    refine c_region _ rfl ?_
    refine l_e rfl ?_
    refine e_call_00 (awake_spec) rfl rfl rfl Try.call14 rfl (fun _ _ => trivial) ?_
    intro _ _
    refine l_q rfl (q_assign rfl rfl) rfl rfl ?_
    refine l_nil ?_
    refine k_then ?_
    refine c_ret ?_
    refine k_then_ret ?_
    refine r_one rfl rfl ?_
    exact fun _ h => ⟨(), rfl, trivial, h.nothing⟩
theorem schedPlays_walk (w : World) (a0 : Int) (w0 : (Lit.int .i64 a0).wf = true) (A1 : Option Addr) (n1 c1 : Nat) (x1 : List Value) (e1 : x1.length = n1 * kinds_1.length) (rd1 : Rd w w.heap.size A1 x1) (l1 : n1 ≤ c1) (m1 : c1 ≤ maxLen) (kk1 : ∀ i, i < n1 → Kinds kinds_1 ((x1.drop (i * kinds_1.length)).take kinds_1.length)) :
    Calls Try.prog 4 #[.int .i64 a0, .slice A1 n1 c1] w fun e w' => e = .returned (.bool true) ∧ Below w.heap.size w w' := by
  obtain ⟨l, rfl, rfl, hW⟩ := flat_of encStp (ks := kinds_1) rfl stp_one n1 x1 e1 kk1
  exact con_walk (plays_spec a0 w0 l) (rdv_of rd1 l1)
end Go.Proofs.Ytjanmpghcigigaa
