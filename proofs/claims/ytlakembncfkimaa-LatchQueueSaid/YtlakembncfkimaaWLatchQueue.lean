/- LatchQueue, walked -/
import Derived.Test.YtlakembncfkimaaF
import Derived.Test.YtlakembncfkimaaSt
import Derived.Test.YtlakembncfkimaaS9
set_option linter.unusedVariables false
set_option linter.unusedSimpArgs false
namespace Go.Proofs.Ytlakembncfkimaa
open Go.Sep Go.RowKit

set_option maxRecDepth 100000 in
set_option maxHeartbeats 1000000 in
theorem queue_law {va : Value} (l : List Stp) : Con Try.prog 6 [va] (fun w => RdV w va encSt l) [] (fun _ : Unit => .bool true) (fun _ => True) (fun _ => []) := by
  intro w hl hH
  refine enter (n := 116) (vs := [va]) (St w [] []) Try.func6 rfl rfl rfl (St.init hH) ?_
  refine c_seq ?_
  refine c_region _ rfl ?_
  refine l_q rfl (q_assign rfl rfl) rfl rfl ?_
  refine l_nil ?_
  refine k_then ?_
  refine c_seq ?_
  refine c_region _ rfl ?_
  refine l_e rfl ?_
  refine e_call_03 (new_spec) rfl rfl rfl Try.call10 rfl (fun _ _ => trivial) ?_
  intro b _
  refine l_q rfl (q_assign rfl rfl) rfl rfl ?_
  refine l_nil ?_
  refine k_then ?_
  refine c_seq ?_
  refine c_seq ?_
  refine c_region _ rfl ?_
  refine l_q rfl (q_move rfl rfl) rfl rfl ?_
  refine l_q rfl (q_eqp rfl Try.underlying23 rfl rfl) rfl rfl ?_
  refine l_q rfl (q_move rfl rfl) rfl rfl ?_
  refine Pre.setB (t := 16) (c := false) rfl (rfl) ?_
  refine l_q rfl (q_move rfl rfl) rfl rfl ?_
  refine l_q rfl (q_lenV rfl Try.underlying36 rfl (fun _ h => hl.keep h (by simp [dom]))) rfl rfl ?_
  refine l_q rfl (q_gtr rfl rfl rfl) rfl rfl ?_
  refine l_q rfl (q_pick_f rfl rfl rfl) rfl rfl ?_
  refine l_nil ?_
  refine k_then ?_
  refine Pre.caseB 20 rfl (fun h20 => ?_) (fun h20 => ?_)
  · try simp only [decide_eq_true_eq, decide_eq_false_iff_not, Bool.not_eq_true', Bool.not_eq_false'] at h20
    refine c_true rfl ?_
    refine c_seq ?_
    refine c_region _ rfl ?_
    refine l_q rfl (q_move rfl rfl) rfl rfl ?_
    refine l_q rfl (q_nep rfl Try.underlying23 rfl rfl) rfl rfl ?_
    refine l_q rfl (q_move rfl rfl) rfl rfl ?_
    refine Pre.setB (t := 23) (c := true) rfl (rfl) ?_
    refine l_e rfl ?_
    refine e_call_00 (awake_spec) rfl rfl rfl Try.call11 rfl (fun _ _ => trivial) ?_
    intro _ _
    refine l_q rfl (q_pick_t rfl rfl rfl) rfl rfl ?_
    refine l_q rfl (q_assign rfl rfl) rfl rfl ?_
    refine l_nil ?_
    refine k_then ?_
    refine c_ret ?_
    refine k_then_ret ?_
    refine r_one rfl rfl ?_
    exact fun _ h => ⟨(), rfl, trivial, h.nothing⟩
  · try simp only [decide_eq_true_eq, decide_eq_false_iff_not, Bool.not_eq_true', Bool.not_eq_false'] at h20
    refine c_false rfl ?_
    refine c_skip ?_
    refine k_then ?_
    refine c_seq ?_
    refine c_region _ rfl ?_
    refine l_q rfl (q_assign rfl rfl) rfl rfl ?_
    refine l_nil ?_
    refine k_then ?_
    refine c_seq ?_
    refine c_seq ?_
    refine c_region _ rfl ?_
    refine l_q rfl (q_assign rfl rfl) rfl rfl ?_
    refine l_nil ?_
    refine k_then ?_
    refine c_block ?_
    refine row0 3 (encI .i64) none ?_
    refine c_loop5 (fun (i : Nat) (m : La) (vR : Value) (vQ : Value) (vr : Value) => [(0, va), (3, .pointer (some ⟨b, 0, none⟩)), (4, vr), (5, .int .i64 (i : Int))]) (fun (i : Nat) (m : La) (vR : Value) (vQ : Value) (vr : Value) => St w [] (rowE vr 3 (encI .i64) (m.q.map Prod.fst) :: LT b vR vQ m)) (fun (i : Nat) (m : La) (vR : Value) (vQ : Value) (vr : Value) => i ≤ l.length ∧ m.Ok i) (fun (i : Nat) (m : La) (vR : Value) (vQ : Value) (vr : Value) => l.length - i) (0) (newL) (.slice none 0 0) (.slice none 0 0) (.slice none 0 0) ⟨Nat.zero_le _, new_ok⟩ (Sub.cons rfl (Sub.cons rfl (Sub.cons rfl (Sub.cons rfl (Sub.nil))))) (fun _ h => h) ?_
    intro i m vR vQ vr hp
    refine c_seq ?_
    refine c_seq ?_
    obtain ⟨hi, hok⟩ := hp
    refine c_region _ rfl ?_
    refine l_q rfl (q_move rfl rfl) rfl rfl ?_
    refine l_q rfl (q_move rfl rfl) rfl rfl ?_
    refine l_q rfl (q_lenV rfl Try.underlying36 rfl (fun _ h => hl.keep h (by simp [dom]))) rfl rfl ?_
    refine l_q rfl (q_lss rfl rfl rfl) rfl rfl ?_
    refine l_nil ?_
    refine k_then ?_
    refine Pre.caseB 29 rfl (fun h1 => ?_) (fun h1 => ?_)
    · try simp only [decide_eq_true_eq, decide_eq_false_iff_not, Bool.not_eq_true', Bool.not_eq_false'] at h1
      obtain ⟨s, hx⟩ : ∃ s, l[i]? = some s := ⟨_, List.getElem?_eq_getElem (by omega)⟩
      have hql := hok.lens
      have hmq : (m.q.map Prod.fst).length = m.q.length := List.length_map ..
      have ht0 := Int.emod_nonneg s.t (show (6 : Int) ≠ 0 by decide)
      obtain ⟨t, ht⟩ : ∃ t, t = s.t % 6 := ⟨_, rfl⟩
      rw [← ht] at ht0
      refine c_true rfl ?_
      refine c_skip ?_
      refine k_then ?_
      refine c_seq ?_
      refine c_block ?_
      refine c_seq ?_
      refine c_region _ rfl ?_
      refine l_q rfl (q_move rfl rfl) rfl rfl ?_
      refine l_q rfl (q_move rfl rfl) rfl rfl ?_
      refine l_q rfl (q_indexV i rfl Try.underlying36 Try.sizeOf39 rfl (fun _ h => hl.keep h (by simp [dom])) rfl rfl (by omega)) rfl rfl ?_
      refine l_q rfl (q_fieldAddr rfl Try.underlying39 rfl Try.sizeOf3 rfl rfl) rfl rfl ?_
      refine l_q rfl (q_loadV i 1 rfl Try.isAgg3 rfl rfl (fun _ h => hl.keep h (by simp [dom])) hx rfl) rfl rfl ?_
      refine l_e rfl ?_
      refine e_call_00 (place_spec s.t 6 (by decide) (by decide)) rfl rfl rfl Try.call19 rfl (fun _ _ => trivial) ?_
      intro _ _
      refine l_q rfl (q_assign rfl rfl) rfl rfl ?_
      refine l_nil ?_
      refine k_then ?_
      refine c_seq ?_
      refine c_region _ rfl ?_
      refine l_q rfl (q_move rfl rfl) rfl rfl ?_
      refine Pre.setV (t := 6) (c := .int .i64 t) rfl (congrArg _ ht.symm) ?_
      refine pull3 ?_
      refine pull3 ?_
      refine pull3 ?_
      refine l_e rfl ?_
      refine e_call_34 (queue_spec hok (by omega) b vR vQ) rfl rfl rfl Try.call17 rfl (fun _ _ => trivial) ?_
      intro q1 _
      refine l_q rfl (q_lenV rfl Try.underlying33 rfl (fun _ h => h.rd 0 rfl)) rfl rfl ?_
      refine l_q rfl (q_assign rfl rfl) rfl rfl ?_
      refine l_nil ?_
      refine k_then ?_
      refine c_seq ?_
      refine c_seq ?_
      refine c_region _ rfl ?_
      refine l_q rfl (q_move rfl rfl) rfl rfl ?_
      refine l_q rfl (q_move rfl rfl) rfl rfl ?_
      refine l_q rfl (q_indexV i rfl Try.underlying36 Try.sizeOf39 rfl (fun _ h => hl.keep h (by simp [dom])) rfl rfl (by omega)) rfl rfl ?_
      refine l_q rfl (q_fieldAddr rfl Try.underlying39 rfl Try.sizeOf3 rfl rfl) rfl rfl ?_
      refine l_q rfl (q_loadV i 0 rfl Try.isAgg3 rfl rfl (fun _ h => hl.keep h (by simp [dom])) hx rfl) rfl rfl ?_
      refine l_q rfl (q_leq rfl rfl rfl) rfl rfl ?_
      refine l_nil ?_
      refine k_then ?_
      refine Pre.setV (t := 7) (c := .int .i64 (m.q.length : Int)) rfl (rfl) ?_
      refine Pre.caseB 46 rfl (fun h2 => ?_) (fun h2 => ?_)
      · try simp only [decide_eq_true_eq, decide_eq_false_iff_not, Bool.not_eq_true', Bool.not_eq_false'] at h2
        have hok2 : (takeL m t s.wr).Ok (i + 1) := take_ok hok t s.wr
        have hq2 := take_q2 m t s.wr
        refine c_true rfl ?_
        refine c_seq ?_
        refine c_region _ rfl ?_
        refine l_q rfl (q_move rfl rfl) rfl rfl ?_
        refine l_q rfl (q_move rfl rfl) rfl rfl ?_
        refine l_q rfl (q_move rfl rfl) rfl rfl ?_
        refine l_q rfl (q_move rfl rfl) rfl rfl ?_
        refine l_q rfl (q_indexV i rfl Try.underlying36 Try.sizeOf39 rfl (fun _ h => hl.keep h (by simp [dom])) rfl rfl (by omega)) rfl rfl ?_
        refine l_q rfl (q_fieldAddr rfl Try.underlying39 rfl Try.sizeOf4 rfl rfl) rfl rfl ?_
        refine l_q rfl (q_loadV i 2 rfl Try.isAgg4 rfl rfl (fun _ h => hl.keep h (by simp [dom])) hx rfl) rfl rfl ?_
        refine pull3 ?_
        refine pull3 ?_
        refine pull3 ?_
        refine l_e rfl ?_
        refine e_call_33 (take_spec hok (by omega) b vR vQ t s.wr) rfl rfl rfl Try.call12 rfl (fun _ _ => trivial) ?_
        intro q2 _
        refine l_nil ?_
        refine k_then ?_
        refine c_seq ?_
        refine c_seq ?_
        refine c_region _ rfl ?_
        refine l_q rfl (q_move rfl rfl) rfl rfl ?_
        refine pull2 ?_
        refine pull2 ?_
        refine pull2 ?_
        refine l_e rfl ?_
        refine e_call_34 (queue_spec hok2 (by omega) b q2.1 q2.2) rfl rfl rfl Try.call17 rfl (fun _ _ => trivial) ?_
        intro q3 _
        refine l_q rfl (q_lenV rfl Try.underlying33 rfl (fun _ h => h.rd 0 rfl)) rfl rfl ?_
        refine l_q rfl (q_move rfl rfl) rfl rfl ?_
        refine l_q rfl (q_gtr rfl rfl rfl) rfl rfl ?_
        refine l_nil ?_
        refine k_then ?_
        refine Pre.caseB 59 rfl (fun h3 => ?_) (fun h3 => ?_)
        · try simp only [decide_eq_true_eq, decide_eq_false_iff_not, Bool.not_eq_true', Bool.not_eq_false'] at h3
          have hq3 : (takeL m t s.wr).q = m.q ++ [(t, s.wr)] := by
            rcases hq2 with h | h
            · exact h.1
            · exact absurd (by omega) h.2
          refine c_true rfl ?_
          refine c_region _ rfl ?_
          refine l_q rfl (q_move rfl rfl) rfl rfl ?_
          refine l_q rfl (q_move rfl rfl) rfl rfl ?_
          refine l_e rfl ?_
          refine e_buildSliceV (sz := 1) [.tmp 61] rfl rfl rfl rfl rfl Try.underlying27 Try.sizeOf3 rfl Try.zeroValue3 rfl ?_
          intro b4
          refine pull6 ?_
          refine l_e rfl ?_
          refine e_append rfl rfl rfl Try.underlying27 Try.underlying27 info3 rfl rfl rfl rfl rfl (fun _ h => lit_rd (h.at 1 rfl) (encI .i64) [t] rfl rfl) (by simp only [byt3, List.length_append, List.length_cons, List.length_nil]; omega) (by simp only [List.length_append, List.length_cons, List.length_nil]; omega) ?_
          intro vr2
          refine row_eq (show m.q.map Prod.fst ++ [t] = (takeL m t s.wr).q.map Prod.fst by rw [hq3]; simp) ?_
          refine pull1 ?_
          refine drop0 ?_
          refine l_q rfl (q_assign rfl rfl) rfl rfl ?_
          refine l_nil ?_
          refine k_then ?_
          refine c_exit ?_
          refine k_then_exit ?_
          refine k_block_exit ?_
          refine k_then ?_
          refine c_region _ rfl ?_
          refine l_q rfl (q_move rfl rfl) rfl rfl ?_
          refine l_q rfl (q_inc rfl rfl rfl (by omega)) rfl rfl ?_
          refine l_q rfl (q_assign rfl rfl) rfl rfl ?_
          refine l_nil ?_
          refine pull1 ?_
          refine drop0 ?_
          refine pull4 ?_
          refine drop0 ?_
          refine pull3 ?_
          refine pull3 ?_
          refine pull3 ?_
          refine pull3 ?_
          exact k_round ((i + 1, takeL m t s.wr, q2.1, q2.2, vr2)) (by dsimp only; omega) ⟨by omega, hok2⟩ (Sub.cons rfl (Sub.cons rfl (Sub.cons rfl (Sub.cons rfl (Sub.nil))))) (fun _ h => h)
        · try simp only [decide_eq_true_eq, decide_eq_false_iff_not, Bool.not_eq_true', Bool.not_eq_false'] at h3
          have hq3 : (takeL m t s.wr).q = m.q := by
            rcases hq2 with h | h
            · exact absurd (by omega) h3
            · exact h.1
          refine c_false rfl ?_
          refine c_skip ?_
          refine k_then ?_
          refine c_exit ?_
          refine k_then_exit ?_
          refine k_block_exit ?_
          refine k_then ?_
          refine c_region _ rfl ?_
          refine l_q rfl (q_move rfl rfl) rfl rfl ?_
          refine l_q rfl (q_inc rfl rfl rfl (by omega)) rfl rfl ?_
          refine l_q rfl (q_assign rfl rfl) rfl rfl ?_
          refine l_nil ?_
          refine pull5 ?_
          refine row_eq (l' := (takeL m t s.wr).q.map Prod.fst) (by rw [hq3]) ?_
          refine pull1 ?_
          refine drop0 ?_
          refine pull4 ?_
          refine drop0 ?_
          refine pull3 ?_
          refine pull3 ?_
          refine pull3 ?_
          refine pull3 ?_
          exact k_round ((i + 1, takeL m t s.wr, q2.1, q2.2, vr)) (by dsimp only; omega) ⟨by omega, hok2⟩ (Sub.cons rfl (Sub.cons rfl (Sub.cons rfl (Sub.cons rfl (Sub.nil))))) (fun _ h => h)
      · try simp only [decide_eq_true_eq, decide_eq_false_iff_not, Bool.not_eq_true', Bool.not_eq_false'] at h2
        refine c_false rfl ?_
        refine c_skip ?_
        refine k_then ?_
        refine c_seq ?_
        refine c_region _ rfl ?_
        refine l_q rfl (q_assign rfl rfl) rfl rfl ?_
        refine l_nil ?_
        refine k_then ?_
        refine c_seq ?_
        refine c_region _ rfl ?_
        refine l_q rfl (q_move rfl rfl) rfl rfl ?_
        refine pull3 ?_
        refine pull3 ?_
        refine pull3 ?_
        refine l_e rfl ?_
        refine e_call_34 (queue_spec hok (by omega) b vR vQ) rfl rfl rfl Try.call17 rfl (fun _ _ => trivial) ?_
        intro vw _
        refine l_q rfl (q_assign rfl rfl) rfl rfl ?_
        refine l_nil ?_
        refine k_then ?_
        refine c_seq ?_
        refine c_seq ?_
        refine c_region _ rfl ?_
        refine l_q rfl (q_assign rfl rfl) rfl rfl ?_
        refine l_nil ?_
        refine k_then ?_
        refine c_block ?_
        refine pull4 ?_
        refine drop0 ?_
        refine pull3 ?_
        refine pull3 ?_
        refine pull3 ?_
        refine pull4 ?_
        refine pull4 ?_
        refine c_loop2 (fun (j : Nat) (wt : Bool) => [(0, va), (3, .pointer (some ⟨b, 0, none⟩)), (4, vr), (5, .int .i64 (i : Int)), (6, .int .i64 t), (8, .bool wt), (9, vw), (10, .int .i64 (j : Int))]) (fun (j : Nat) (wt : Bool) => St w [] (rowE vw 41 encW m.q :: rowE vr 3 (encI .i64) (m.q.map Prod.fst) :: LT b vR vQ m)) (fun (j : Nat) (wt : Bool) => j ≤ m.q.length ∧ wt = decide (t ∈ (m.q.take j).map Prod.fst)) (fun (j : Nat) (wt : Bool) => m.q.length - j) (0) (false) ⟨Nat.zero_le _, by simp⟩ (Sub.cons rfl (Sub.cons rfl (Sub.cons rfl (Sub.cons rfl (Sub.cons rfl (Sub.cons rfl (Sub.cons rfl (Sub.cons rfl (Sub.nil))))))))) (fun _ h => h) ?_
        intro j wt hp
        refine c_seq ?_
        refine c_seq ?_
        obtain ⟨hj1, hwt⟩ := hp
        refine c_region _ rfl ?_
        refine l_q rfl (q_move rfl rfl) rfl rfl ?_
        refine l_q rfl (q_move rfl rfl) rfl rfl ?_
        refine l_q rfl (q_lenV rfl Try.underlying33 rfl (fun _ h => h.rd 0 rfl)) rfl rfl ?_
        refine l_q rfl (q_lss rfl rfl rfl) rfl rfl ?_
        refine l_nil ?_
        refine k_then ?_
        refine Pre.caseB 69 rfl (fun h4 => ?_) (fun h4 => ?_)
        · try simp only [decide_eq_true_eq, decide_eq_false_iff_not, Bool.not_eq_true', Bool.not_eq_false'] at h4
          obtain ⟨y, hj⟩ : ∃ y, m.q[j]? = some y := ⟨_, List.getElem?_eq_getElem (by omega)⟩
          have hsn : m.q.take (j + 1) = m.q.take j ++ [y] := by rw [List.take_add_one, hj]; rfl
          refine c_true rfl ?_
          refine c_skip ?_
          refine k_then ?_
          refine c_seq ?_
          refine c_block ?_
          refine c_region _ rfl ?_
          refine l_q rfl (q_move rfl rfl) rfl rfl ?_
          refine l_q rfl (q_move rfl rfl) rfl rfl ?_
          refine Pre.caseB 73 rfl (fun h5 => ?_) (fun h5 => ?_)
          · refine l_not rfl rfl rfl ?_
            refine l_not rfl rfl rfl ?_
            refine l_not rfl rfl rfl ?_
            refine l_not rfl rfl rfl ?_
            refine l_not rfl rfl rfl ?_
            refine l_not rfl rfl rfl ?_
            refine l_not rfl rfl rfl ?_
            refine l_q rfl (q_pick_t rfl rfl rfl) rfl rfl ?_
            refine l_q rfl (q_assign rfl rfl) rfl rfl ?_
            refine l_nil ?_
            refine k_block ?_
            refine k_then ?_
            refine c_region _ rfl ?_
            refine l_q rfl (q_move rfl rfl) rfl rfl ?_
            refine l_q rfl (q_inc rfl rfl rfl (by omega)) rfl rfl ?_
            refine l_q rfl (q_assign rfl rfl) rfl rfl ?_
            refine l_nil ?_
            exact k_round ((j + 1, true)) (by dsimp only; omega) ⟨by omega, by rw [hsn, List.map_append]; rw [h5] at hwt; have := of_decide_eq_true hwt.symm; exact (decide_eq_true (List.mem_append_left _ this)).symm⟩ (Sub.cons rfl (Sub.cons rfl (Sub.cons rfl (Sub.cons rfl (Sub.cons rfl (Sub.cons rfl (Sub.cons rfl (Sub.cons rfl (Sub.nil))))))))) (fun _ h => h)
          · refine l_q rfl (q_move rfl rfl) rfl rfl ?_
            refine l_q rfl (q_move rfl rfl) rfl rfl ?_
            refine l_q rfl (q_indexV j rfl Try.underlying33 Try.sizeOf41 rfl (fun _ h => h.rd 0 rfl) rfl rfl (by omega)) rfl rfl ?_
            refine l_q rfl (q_fieldAddr rfl Try.underlying41 rfl Try.sizeOf3 rfl rfl) rfl rfl ?_
            refine l_q rfl (q_loadV j 0 rfl Try.isAgg3 rfl rfl (fun _ h => h.rd 0 rfl) hj rfl) rfl rfl ?_
            refine l_q rfl (q_move rfl rfl) rfl rfl ?_
            refine l_q rfl (q_eql rfl rfl rfl) rfl rfl ?_
            refine l_q rfl (q_pick_f rfl rfl rfl) rfl rfl ?_
            refine l_q rfl (q_assign rfl rfl) rfl rfl ?_
            refine l_nil ?_
            refine k_block ?_
            refine k_then ?_
            refine c_region _ rfl ?_
            refine l_q rfl (q_move rfl rfl) rfl rfl ?_
            refine l_q rfl (q_inc rfl rfl rfl (by omega)) rfl rfl ?_
            refine l_q rfl (q_assign rfl rfl) rfl rfl ?_
            refine l_nil ?_
            exact k_round ((j + 1, decide (y.1 = t))) (by dsimp only; omega) ⟨by omega, by rw [hsn, List.map_append]; rw [h5] at hwt; have := of_decide_eq_false hwt.symm; rw [decide_eq_decide, List.mem_append]; exact ⟨fun e => .inr (by simp [e]), fun e => by rcases e with e | e; exact absurd e this; simpa [eq_comm] using e⟩⟩ (Sub.cons rfl (Sub.cons rfl (Sub.cons rfl (Sub.cons rfl (Sub.cons rfl (Sub.cons rfl (Sub.cons rfl (Sub.cons rfl (Sub.nil))))))))) (fun _ h => h)
        · try simp only [decide_eq_true_eq, decide_eq_false_iff_not, Bool.not_eq_true', Bool.not_eq_false'] at h4
          have hje : j = m.q.length := by omega
          subst hje
          rw [List.take_length] at hwt
          refine drop0 ?_
          refine c_false rfl ?_
          refine c_exit ?_
          refine k_then_exit ?_
          refine k_then_exit ?_
          refine k_block_exit ?_
          refine k_then ?_
          refine c_seq ?_
          refine c_seq ?_
          refine c_region _ rfl ?_
          refine l_q rfl (q_move rfl rfl) rfl rfl ?_
          refine l_nil ?_
          refine k_then ?_
          refine Pre.caseB 82 rfl (fun h6 => ?_) (fun h6 => ?_)
          · refine c_true rfl ?_
            refine c_exit ?_
            refine k_then_exit ?_
            refine k_block_exit ?_
            refine k_then ?_
            refine c_region _ rfl ?_
            refine l_q rfl (q_move rfl rfl) rfl rfl ?_
            refine l_q rfl (q_inc rfl rfl rfl (by omega)) rfl rfl ?_
            refine l_q rfl (q_assign rfl rfl) rfl rfl ?_
            refine l_nil ?_
            refine pull3 ?_
            refine pull3 ?_
            refine pull3 ?_
            refine pull3 ?_
            exact k_round ((i + 1, m, vR, vQ, vr)) (by dsimp only; omega) ⟨by omega, hok.mono (by omega)⟩ (Sub.cons rfl (Sub.cons rfl (Sub.cons rfl (Sub.cons rfl (Sub.nil))))) (fun _ h => h)
          · rw [h6] at hwt
            have hnt := of_decide_eq_false hwt.symm
            have hsp := drop_q (m := m) ht0 hnt
            have hok2 : (dropL m t).2.Ok i := drop_ok hok t
            have hlin : (dropL m t).1.length ≤ m.q.length := by have := congrArg List.length hsp; simp at this; omega
            refine c_false rfl ?_
            refine c_skip ?_
            refine k_then ?_
            refine c_seq ?_
            refine c_region _ rfl ?_
            refine l_q rfl (q_move rfl rfl) rfl rfl ?_
            refine l_q rfl (q_move rfl rfl) rfl rfl ?_
            refine pull3 ?_
            refine pull3 ?_
            refine pull3 ?_
            refine l_e rfl ?_
            refine e_call_34 (drop_spec hok (by omega) b vR vQ t) rfl rfl rfl Try.call13 rfl (fun _ _ => trivial) ?_
            intro vin _
            refine l_q rfl (q_assign rfl rfl) rfl rfl ?_
            refine l_nil ?_
            refine k_then ?_
            refine c_seq ?_
            refine c_region _ rfl ?_
            refine l_q rfl (q_assign rfl rfl) rfl rfl ?_
            refine l_nil ?_
            refine k_then ?_
            refine c_block ?_
            refine pull3 ?_
            refine pull3 ?_
            refine pull3 ?_
            refine pull4 ?_
            refine pull4 ?_
            refine pull1 ?_
            refine row_eq (l' := (dropL m t).1.drop 0 ++ (dropL m t).2.q.map Prod.fst) (by rw [List.drop_zero]; exact hsp) ?_
            refine pull1 ?_
            refine c_loop2 (fun (j : Nat) (vr2 : Value) => [(0, va), (3, .pointer (some ⟨b, 0, none⟩)), (4, vr2), (5, .int .i64 (i : Int)), (11, vin.1), (12, .int .i64 (j : Int))]) (fun (j : Nat) (vr2 : Value) => St w [] (rowE vin.1 3 (encI .i64) (dropL m t).1 :: rowE vr2 3 (encI .i64) ((dropL m t).1.drop j ++ (dropL m t).2.q.map Prod.fst) :: LT b vin.2.1 vin.2.2 (dropL m t).2)) (fun (j : Nat) (vr2 : Value) => j ≤ (dropL m t).1.length) (fun (j : Nat) (vr2 : Value) => (dropL m t).1.length - j) (0) (vr) (Nat.zero_le _) (Sub.cons rfl (Sub.cons rfl (Sub.cons rfl (Sub.cons rfl (Sub.cons rfl (Sub.cons rfl (Sub.nil))))))) (fun _ h => h) ?_
            intro j vr2 hj1
            refine c_seq ?_
            refine c_seq ?_
            refine c_region _ rfl ?_
            refine l_q rfl (q_move rfl rfl) rfl rfl ?_
            refine l_q rfl (q_move rfl rfl) rfl rfl ?_
            refine l_q rfl (q_lenV rfl Try.underlying27 rfl (fun _ h => h.rd 0 rfl)) rfl rfl ?_
            refine l_q rfl (q_lss rfl rfl rfl) rfl rfl ?_
            refine l_nil ?_
            refine k_then ?_
            refine Pre.caseB 89 rfl (fun h7 => ?_) (fun h7 => ?_)
            · try simp only [decide_eq_true_eq, decide_eq_false_iff_not, Bool.not_eq_true', Bool.not_eq_false'] at h7
              obtain ⟨y, hj⟩ : ∃ y, (dropL m t).1[j]? = some y := ⟨_, List.getElem?_eq_getElem (by omega)⟩
              have hdj : (dropL m t).1.drop j = y :: (dropL m t).1.drop (j + 1) := by
                have h9 := List.getElem?_eq_some_iff.1 hj
                obtain ⟨h8, h9⟩ := h9
                rw [← h9]; exact List.drop_eq_getElem_cons h8
              have hr0 : ((dropL m t).1.drop j ++ (dropL m t).2.q.map Prod.fst)[0]? = some y := by rw [hdj]; rfl
              have hlp : 0 < ((dropL m t).1.drop j ++ (dropL m t).2.q.map Prod.fst).length := by rw [hdj]; simp
              refine c_true rfl ?_
              refine c_skip ?_
              refine k_then ?_
              refine c_seq ?_
              refine c_block ?_
              refine c_seq ?_
              refine c_seq ?_
              refine c_draw [(0, some true), (1, some true), (2, some true), (3, some true), (4, some true), (5, some true), (6, some true), (7, some true), (8, some true), (9, some true), (10, some true), (11, some true), (12, some true)] [] [(_, some true), (_, some true), (_, some true), (_, some true), (_, some true), (_, some true), (_, some true), (_, some true), (_, some true), (_, some true), (_, some true), (_, some true), (_, some true)] _ (blind_then (blind_then (blind_block (blind_then (blind_then (blind_block (blind_block (blind_then (blind_then (blind_block (blind_then blind_body))))))))))) rfl (by kernel_rfl) (by kernel_rfl) rfl rfl rfl (by kernel_rfl) St.drawn (fun _ h => h) ?_
              refine d_q rfl (q_move rfl rfl) rfl rfl ?_
              refine d_q rfl (q_lenV rfl Try.underlying27 rfl (fun _ h => h.rd 1 rfl)) rfl rfl ?_
              refine d_q rfl (q_eql rfl rfl rfl) rfl rfl ?_
              refine d_q rfl (q_move rfl rfl) rfl rfl ?_
              refine Pre.setB (t := 95) (c := false) rfl (decide_eq_false (by omega)) ?_
              refine d_q rfl (q_move rfl rfl) rfl rfl ?_
              refine d_q rfl (q_indexV 0 rfl Try.underlying27 Try.sizeOf3 rfl (fun _ h => h.rd 1 rfl) rfl rfl (by omega)) rfl rfl ?_
              refine d_q rfl (q_loadV 0 0 rfl Try.isAgg3 rfl rfl (fun _ h => h.rd 1 rfl) hr0 rfl) rfl rfl ?_
              refine d_q rfl (q_move rfl rfl) rfl rfl ?_
              refine d_q rfl (q_move rfl rfl) rfl rfl ?_
              refine d_q rfl (q_indexV j rfl Try.underlying27 Try.sizeOf3 rfl (fun _ h => h.rd 0 rfl) rfl rfl (by omega)) rfl rfl ?_
              refine d_q rfl (q_loadV j 0 rfl Try.isAgg3 rfl rfl (fun _ h => h.rd 0 rfl) hj rfl) rfl rfl ?_
              refine d_q rfl (q_neq rfl rfl rfl) rfl rfl ?_
              refine d_q rfl (q_pick_f rfl rfl rfl) rfl rfl ?_
              refine d_nil ?_
              refine k_then ?_
              refine Pre.setB (t := 104) (c := false) rfl (by simp) ?_
              refine c_false rfl ?_
              refine c_skip ?_
              refine k_then ?_
              refine c_region _ rfl ?_
              refine l_q rfl (q_move rfl rfl) rfl rfl ?_
              refine l_q rfl (q_sliceVL 1 rfl Try.underlying27 Try.sizeOf3 rfl (fun _ h => h.rd 1 rfl) rfl rfl (by omega)) rfl rfl ?_
              refine l_q rfl (q_assign rfl rfl) rfl rfl ?_
              refine l_nil ?_
              refine k_block ?_
              refine k_then ?_
              refine c_region _ rfl ?_
              refine l_q rfl (q_move rfl rfl) rfl rfl ?_
              refine l_q rfl (q_inc rfl rfl rfl (by omega)) rfl rfl ?_
              refine l_q rfl (q_assign rfl rfl) rfl rfl ?_
              refine l_nil ?_
              refine pull1 ?_
              refine row_tail 1 (by omega) ?_
              refine row_eq (l' := (dropL m t).1.drop (j + 1) ++ (dropL m t).2.q.map Prod.fst) (by rw [hdj]; rfl) ?_
              refine pull4 ?_
              refine pull4 ?_
              refine pull4 ?_
              refine pull3 ?_
              refine pull4 ?_
              exact k_round ((j + 1, vsl vr2 (encI .i64).sz 1 ((dropL m t).1.drop j ++ (dropL m t).2.q.map Prod.fst).length)) (by dsimp only; omega) (by dsimp only; omega) (Sub.cons rfl (Sub.cons rfl (Sub.cons rfl (Sub.cons rfl (Sub.cons rfl (Sub.cons rfl (Sub.nil))))))) (fun _ h => h)
            · try simp only [decide_eq_true_eq, decide_eq_false_iff_not, Bool.not_eq_true', Bool.not_eq_false'] at h7
              have hje : j = (dropL m t).1.length := by omega
              subst hje
              refine drop0 ?_
              refine row_eq (l' := (dropL m t).2.q.map Prod.fst) (by rw [List.drop_length]; rfl) ?_
              refine c_false rfl ?_
              refine c_exit ?_
              refine k_then_exit ?_
              refine k_then_exit ?_
              refine k_block_exit ?_
              refine k_block ?_
              refine k_then ?_
              refine c_region _ rfl ?_
              refine l_q rfl (q_move rfl rfl) rfl rfl ?_
              refine l_q rfl (q_inc rfl rfl rfl (by omega)) rfl rfl ?_
              refine l_q rfl (q_assign rfl rfl) rfl rfl ?_
              refine l_nil ?_
              refine pull3 ?_
              refine pull3 ?_
              refine pull3 ?_
              refine pull3 ?_
              exact k_round ((i + 1, (dropL m t).2, vin.2.1, vin.2.2, vr2)) (by dsimp only; omega) ⟨by omega, hok2.mono (by omega)⟩ (Sub.cons rfl (Sub.cons rfl (Sub.cons rfl (Sub.cons rfl (Sub.nil))))) (fun _ h => h)
    · try simp only [decide_eq_true_eq, decide_eq_false_iff_not, Bool.not_eq_true', Bool.not_eq_false'] at h1
      have hql := hok.lens
      refine c_false rfl ?_
      refine c_exit ?_
      refine k_then_exit ?_
      refine k_then_exit ?_
      refine k_block_exit ?_
      refine k_then ?_
      refine c_seq ?_
      refine c_region _ rfl ?_
      refine l_q rfl (q_move rfl rfl) rfl rfl ?_
      refine l_q rfl (q_lenV rfl Try.underlying27 rfl (fun _ h => h.rd 0 rfl)) rfl rfl ?_
      refine l_q rfl (q_move rfl rfl) rfl rfl ?_
      refine pull3 ?_
      refine pull3 ?_
      refine pull3 ?_
      refine l_e rfl ?_
      refine e_call_34 (queue_spec hok (by omega) b vR vQ) rfl rfl rfl Try.call17 rfl (fun _ _ => trivial) ?_
      intro q6 _
      refine l_q rfl (q_lenV rfl Try.underlying33 rfl (fun _ h => h.rd 0 rfl)) rfl rfl ?_
      refine l_q rfl (q_eql rfl rfl rfl) rfl rfl ?_
      refine l_q rfl (q_move rfl rfl) rfl rfl ?_
      refine Pre.setB (t := 113) (c := true) rfl (by simp) ?_
      refine l_e rfl ?_
      refine e_call_00 (awake_spec) rfl rfl rfl Try.call11 rfl (fun _ _ => trivial) ?_
      intro _ _
      refine l_q rfl (q_pick_t rfl rfl rfl) rfl rfl ?_
      refine l_q rfl (q_assign rfl rfl) rfl rfl ?_
      refine l_nil ?_
      refine k_then ?_
      refine c_ret ?_
      refine r_one rfl rfl ?_
      exact fun _ h => ⟨(), rfl, trivial, h.nothing⟩
theorem latchQueue_walk (w : World) (A0 : Option Addr) (n0 c0 : Nat) (x0 : List Value) (e0 : x0.length = n0 * kinds_0.length) (rd0 : Rd w w.heap.size A0 x0) (l0 : n0 ≤ c0) (m0 : c0 ≤ maxLen) (kk0 : ∀ i, i < n0 → Kinds kinds_0 ((x0.drop (i * kinds_0.length)).take kinds_0.length)) :
    Calls Try.prog 6 #[.slice A0 n0 c0] w fun e w' => e = .returned (.bool true) ∧ Below w.heap.size w w' := by
  obtain ⟨l, rfl, rfl, hW⟩ := flat_of encSt (ks := kinds_0) rfl stp_one n0 x0 e0 kk0
  exact con_walk (queue_law l) (rdv_of rd0 l0)
end Go.Proofs.Ytlakembncfkimaa
