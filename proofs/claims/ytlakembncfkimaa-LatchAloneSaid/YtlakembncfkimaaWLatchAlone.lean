/- LatchAlone, walked -/
import Derived.Test.YtlakembncfkimaaF
import Derived.Test.YtlakembncfkimaaSt
import Derived.Test.YtlakembncfkimaaAl
import Derived.Test.YtlakembncfkimaaS9
set_option linter.unusedVariables false
set_option linter.unusedSimpArgs false
namespace Go.Proofs.Ytlakembncfkimaa
open Go.Sep Go.RowKit

set_option maxRecDepth 100000 in
set_option maxHeartbeats 1000000 in
theorem alone_law {va : Value} (l : List Stp) : Con Try.prog 7 [va] (fun w => RdV w va encSt l) [] (fun _ : Unit => .bool true) (fun _ => True) (fun _ => []) := by
  intro w hl hH
  refine enter (n := 188) (vs := [va]) (St w [] []) Try.func7 rfl rfl rfl (St.init hH) ?_
  refine c_seq ?_
  refine c_region _ rfl ?_
  refine l_q rfl (q_assign rfl rfl) rfl rfl ?_
  refine l_nil ?_
  refine k_then ?_
  refine c_seq ?_
  refine c_region _ rfl ?_
  refine l_e rfl ?_
  refine e_call_03 (new_spec) rfl rfl rfl Try.call10 rfl (fun _ _ => trivial) ?_
  intro b _
  refine l_q rfl (q_assign rfl rfl) rfl rfl ?_
  refine l_nil ?_
  refine k_then ?_
  refine c_seq ?_
  refine c_seq ?_
  refine c_region _ rfl ?_
  refine l_q rfl (q_move rfl rfl) rfl rfl ?_
  refine l_q rfl (q_eqp rfl Try.underlying23 rfl rfl) rfl rfl ?_
  refine l_q rfl (q_move rfl rfl) rfl rfl ?_
  refine Pre.setB (t := 16) (c := false) rfl (rfl) ?_
  refine l_q rfl (q_move rfl rfl) rfl rfl ?_
  refine l_q rfl (q_lenV rfl Try.underlying36 rfl (fun _ h => hl.keep h (by simp [dom]))) rfl rfl ?_
  refine l_q rfl (q_gtr rfl rfl rfl) rfl rfl ?_
  refine l_q rfl (q_pick_f rfl rfl rfl) rfl rfl ?_
  refine l_nil ?_
  refine k_then ?_
  refine Pre.caseB 20 rfl (fun h20 => ?_) (fun h20 => ?_)
  · try simp only [decide_eq_true_eq, decide_eq_false_iff_not, Bool.not_eq_true', Bool.not_eq_false'] at h20
    refine c_true rfl ?_
    refine c_seq ?_
    refine c_region _ rfl ?_
    refine l_q rfl (q_move rfl rfl) rfl rfl ?_
    refine l_q rfl (q_nep rfl Try.underlying23 rfl rfl) rfl rfl ?_
    refine l_q rfl (q_move rfl rfl) rfl rfl ?_
    refine Pre.setB (t := 23) (c := true) rfl (rfl) ?_
    refine l_e rfl ?_
    refine e_call_00 (awake_spec) rfl rfl rfl Try.call11 rfl (fun _ _ => trivial) ?_
    intro _ _
    refine l_q rfl (q_pick_t rfl rfl rfl) rfl rfl ?_
    refine l_q rfl (q_assign rfl rfl) rfl rfl ?_
    refine l_nil ?_
    refine k_then ?_
    refine c_ret ?_
    refine k_then_ret ?_
    refine r_one rfl rfl ?_
    exact fun _ h => ⟨(), rfl, trivial, h.nothing⟩
  · try simp only [decide_eq_true_eq, decide_eq_false_iff_not, Bool.not_eq_true', Bool.not_eq_false'] at h20
    refine c_false rfl ?_
    refine c_skip ?_
    refine k_then ?_
    refine c_seq ?_
    refine c_seq ?_
    refine c_region _ rfl ?_
    refine l_q rfl (q_assign rfl rfl) rfl rfl ?_
    refine l_nil ?_
    refine k_then ?_
    refine c_block ?_
    refine c_loop4 (fun (i : Nat) (m : La) (vR : Value) (vQ : Value) => [(0, va), (3, .pointer (some ⟨b, 0, none⟩)), (4, .int .i64 (i : Int))]) (fun (i : Nat) (m : La) (vR : Value) (vQ : Value) => St w [] (LT b vR vQ m)) (fun (i : Nat) (m : La) (vR : Value) (vQ : Value) => i ≤ l.length ∧ m.Ok i ∧ Al m) (fun (i : Nat) (m : La) (vR : Value) (vQ : Value) => l.length - i) (0) (newL) (.slice none 0 0) (.slice none 0 0) ⟨Nat.zero_le _, new_ok, al_new⟩ (Sub.cons rfl (Sub.cons rfl (Sub.cons rfl (Sub.nil)))) (fun _ h => h) ?_
    intro i m vR vQ hp
    refine c_seq ?_
    refine c_seq ?_
    obtain ⟨hi, hok, hal⟩ := hp
    refine c_region _ rfl ?_
    refine l_q rfl (q_move rfl rfl) rfl rfl ?_
    refine l_q rfl (q_move rfl rfl) rfl rfl ?_
    refine l_q rfl (q_lenV rfl Try.underlying36 rfl (fun _ h => hl.keep h (by simp [dom]))) rfl rfl ?_
    refine l_q rfl (q_lss rfl rfl rfl) rfl rfl ?_
    refine l_nil ?_
    refine k_then ?_
    refine Pre.caseB 29 rfl (fun h1 => ?_) (fun h1 => ?_)
    · try simp only [decide_eq_true_eq, decide_eq_false_iff_not, Bool.not_eq_true', Bool.not_eq_false'] at h1
      obtain ⟨s, hx⟩ : ∃ s, l[i]? = some s := ⟨_, List.getElem?_eq_getElem (by omega)⟩
      have ht0 := Int.emod_nonneg s.t (show (6 : Int) ≠ 0 by decide)
      have ht6 := Int.emod_lt_of_pos s.t (show (0 : Int) < 6 by decide)
      obtain ⟨t, ht⟩ : ∃ t, t = s.t % 6 := ⟨_, rfl⟩
      rw [← ht] at ht0 ht6
      refine c_true rfl ?_
      refine c_skip ?_
      refine k_then ?_
      refine c_seq ?_
      refine c_block ?_
      refine c_seq ?_
      refine c_region _ rfl ?_
      refine l_q rfl (q_move rfl rfl) rfl rfl ?_
      refine l_q rfl (q_move rfl rfl) rfl rfl ?_
      refine l_q rfl (q_indexV i rfl Try.underlying36 Try.sizeOf39 rfl (fun _ h => hl.keep h (by simp [dom])) rfl rfl (by omega)) rfl rfl ?_
      refine l_q rfl (q_fieldAddr rfl Try.underlying39 rfl Try.sizeOf3 rfl rfl) rfl rfl ?_
      refine l_q rfl (q_loadV i 1 rfl Try.isAgg3 rfl rfl (fun _ h => hl.keep h (by simp [dom])) hx rfl) rfl rfl ?_
      refine l_e rfl ?_
      refine e_call_00 (place_spec s.t 6 (by decide) (by decide)) rfl rfl rfl Try.call19 rfl (fun _ _ => trivial) ?_
      intro _ _
      refine l_q rfl (q_assign rfl rfl) rfl rfl ?_
      refine l_nil ?_
      refine k_then ?_
      refine c_seq ?_
      refine Pre.setV (t := 5) (c := .int .i64 t) rfl (congrArg _ ht.symm) ?_
      refine c_meet3 (fun (m2 : La) (vR2 : Value) (vQ2 : Value) => [(0, va), (3, .pointer (some ⟨b, 0, none⟩)), (4, .int .i64 (i : Int))]) (fun (m2 : La) (vR2 : Value) (vQ2 : Value) => St w [] (LT b vR2 vQ2 m2)) (fun (m2 : La) (vR2 : Value) (vQ2 : Value) => m2.Ok (i + 1) ∧ Al m2) ?_ ?_
      · refine c_block ?_
        refine c_seq ?_
        refine c_region _ rfl ?_
        refine l_q rfl (q_move rfl rfl) rfl rfl ?_
        refine l_q rfl (q_move rfl rfl) rfl rfl ?_
        refine l_q rfl (q_indexV i rfl Try.underlying36 Try.sizeOf39 rfl (fun _ h => hl.keep h (by simp [dom])) rfl rfl (by omega)) rfl rfl ?_
        refine l_q rfl (q_fieldAddr rfl Try.underlying39 rfl Try.sizeOf3 rfl rfl) rfl rfl ?_
        refine l_q rfl (q_loadV i 0 rfl Try.isAgg3 rfl rfl (fun _ h => hl.keep h (by simp [dom])) hx rfl) rfl rfl ?_
        refine l_q rfl (q_leq rfl rfl rfl) rfl rfl ?_
        refine l_q rfl (q_assign rfl rfl) rfl rfl ?_
        refine l_nil ?_
        refine k_then ?_
        refine Pre.caseB 41 rfl (fun h2 => ?_) (fun h2 => ?_)
        · try simp only [decide_eq_true_eq, decide_eq_false_iff_not, Bool.not_eq_true', Bool.not_eq_false'] at h2
          refine c_true rfl ?_
          refine c_region _ rfl ?_
          refine l_q rfl (q_move rfl rfl) rfl rfl ?_
          refine l_q rfl (q_move rfl rfl) rfl rfl ?_
          refine l_q rfl (q_move rfl rfl) rfl rfl ?_
          refine l_q rfl (q_move rfl rfl) rfl rfl ?_
          refine l_q rfl (q_indexV i rfl Try.underlying36 Try.sizeOf39 rfl (fun _ h => hl.keep h (by simp [dom])) rfl rfl (by omega)) rfl rfl ?_
          refine l_q rfl (q_fieldAddr rfl Try.underlying39 rfl Try.sizeOf4 rfl rfl) rfl rfl ?_
          refine l_q rfl (q_loadV i 2 rfl Try.isAgg4 rfl rfl (fun _ h => hl.keep h (by simp [dom])) hx rfl) rfl rfl ?_
          refine pull2 ?_
          refine pull2 ?_
          refine pull2 ?_
          refine l_e rfl ?_
          refine e_call_33 (take_spec hok (by omega) b vR vQ t s.wr) rfl rfl rfl Try.call12 rfl (fun _ _ => trivial) ?_
          intro q1 _
          refine l_nil ?_
          refine k_block ?_
          refine pull2 ?_
          refine pull2 ?_
          refine pull2 ?_
          exact k_meet ((takeL m t s.wr, q1.1, q1.2)) ⟨take_ok hok t s.wr, al_take hal hok ht6 s.wr⟩ (Sub.cons rfl (Sub.cons rfl (Sub.cons rfl (Sub.nil)))) (fun _ h => h)
        · try simp only [decide_eq_true_eq, decide_eq_false_iff_not, Bool.not_eq_true', Bool.not_eq_false'] at h2
          refine c_false rfl ?_
          refine c_seq ?_
          refine c_region _ rfl ?_
          refine l_q rfl (q_move rfl rfl) rfl rfl ?_
          refine l_q rfl (q_move rfl rfl) rfl rfl ?_
          refine l_q rfl (q_indexV i rfl Try.underlying36 Try.sizeOf39 rfl (fun _ h => hl.keep h (by simp [dom])) rfl rfl (by omega)) rfl rfl ?_
          refine l_q rfl (q_fieldAddr rfl Try.underlying39 rfl Try.sizeOf3 rfl rfl) rfl rfl ?_
          refine l_q rfl (q_loadV i 0 rfl Try.isAgg3 rfl rfl (fun _ h => hl.keep h (by simp [dom])) hx rfl) rfl rfl ?_
          refine l_q rfl (q_leq rfl rfl rfl) rfl rfl ?_
          refine l_q rfl (q_assign rfl rfl) rfl rfl ?_
          refine l_nil ?_
          refine k_then ?_
          refine Pre.caseB 56 rfl (fun h3 => ?_) (fun h3 => ?_)
          · try simp only [decide_eq_true_eq, decide_eq_false_iff_not, Bool.not_eq_true', Bool.not_eq_false'] at h3
            refine c_true rfl ?_
            refine c_region _ rfl ?_
            refine l_q rfl (q_move rfl rfl) rfl rfl ?_
            refine l_q rfl (q_move rfl rfl) rfl rfl ?_
            refine pull2 ?_
            refine pull2 ?_
            refine pull2 ?_
            refine l_e rfl ?_
            refine e_call_34 (drop_spec hok (by omega) b vR vQ t) rfl rfl rfl Try.call13 rfl (fun _ _ => trivial) ?_
            intro q2 _
            refine l_nil ?_
            refine k_block ?_
            refine drop0 ?_
            refine pull2 ?_
            refine pull2 ?_
            refine pull2 ?_
            exact k_meet (((dropL m t).2, q2.2.1, q2.2.2)) ⟨(drop_ok hok t).mono (by omega), al_drop hal hok ht0⟩ (Sub.cons rfl (Sub.cons rfl (Sub.cons rfl (Sub.nil)))) (fun _ h => h)
          · try simp only [decide_eq_true_eq, decide_eq_false_iff_not, Bool.not_eq_true', Bool.not_eq_false'] at h3
            refine c_false rfl ?_
            refine c_region _ rfl ?_
            refine l_q rfl (q_move rfl rfl) rfl rfl ?_
            refine l_q rfl (q_move rfl rfl) rfl rfl ?_
            refine pull2 ?_
            refine pull2 ?_
            refine pull2 ?_
            refine l_e rfl ?_
            refine e_call_34 (down_spec hok (by omega) b vR vQ t) rfl rfl rfl Try.call20 rfl (fun _ _ => trivial) ?_
            intro q3 _
            refine l_nil ?_
            refine k_block ?_
            refine drop0 ?_
            refine pull2 ?_
            refine pull2 ?_
            refine pull2 ?_
            exact k_meet (((downL m t).2, q3.2.1, q3.2.2)) ⟨(down_ok hok t).mono (by omega), al_down hal hok t⟩ (Sub.cons rfl (Sub.cons rfl (Sub.cons rfl (Sub.nil)))) (fun _ h => h)
      · rintro m2 vR2 vQ2 ⟨hok2, hal2⟩
        refine c_seq ?_
        have hlen := hok2.lens
        have hw1 := hok2.wr
        have hw6 := hal2.wr
        have hex := hok2.ex
        refine c_region _ rfl ?_
        refine l_q rfl (q_move rfl rfl) rfl rfl ?_
        refine pull2 ?_
        refine pull2 ?_
        refine pull2 ?_
        refine l_e rfl ?_
        refine e_call_34 (readers_spec hok2 (by omega) b vR2 vQ2) rfl rfl rfl Try.call16 rfl (fun _ _ => trivial) ?_
        intro vr _
        refine l_q rfl (q_move rfl rfl) rfl rfl ?_
        refine pull3 ?_
        refine pull3 ?_
        refine pull3 ?_
        refine l_e rfl ?_
        refine e_call_33 (writer_spec hok2 (by omega) b vR2 vQ2 ) rfl rfl rfl Try.call15 rfl (fun _ _ => trivial) ?_
        intro _ _
        refine l_q rfl (q_move rfl rfl) rfl rfl ?_
        refine pull2 ?_
        refine pull2 ?_
        refine pull2 ?_
        refine l_e rfl ?_
        refine e_call_34 (queue_spec hok2 (by omega) b vR2 vQ2) rfl rfl rfl Try.call17 rfl (fun _ _ => trivial) ?_
        intro vq _
        refine l_q rfl (q_assign rfl rfl) rfl rfl ?_
        refine l_q rfl (q_assign rfl rfl) rfl rfl ?_
        refine l_q rfl (q_assign rfl rfl) rfl rfl ?_
        refine l_nil ?_
        refine k_then ?_
        refine c_seq ?_
        refine c_region _ rfl ?_
        refine l_e rfl ?_
        refine e_alloc rfl rfl rfl Try.zeroValue43 ?_
        intro bm
        refine cells_eq (show _ = met [] from rfl) ?_
        refine l_nil ?_
        refine k_then ?_
        refine c_seq ?_
        refine c_seq ?_
        refine c_region _ rfl ?_
        refine l_q rfl (q_assign rfl rfl) rfl rfl ?_
        refine l_nil ?_
        refine k_then ?_
        refine c_block ?_
        refine pull4 ?_
        refine pull4 ?_
        refine pull4 ?_
        refine pull4 ?_
        refine pull5 ?_
        refine pull5 ?_
        refine c_loop1 (fun (j : Nat) => [(0, va), (3, .pointer (some ⟨b, 0, none⟩)), (4, .int .i64 (i : Int)), (6, vr), (7, .int .i64 m2.wr), (8, vq), (9, .pointer (some ⟨bm, 0, none⟩)), (10, .int .i64 (j : Int))]) (fun (j : Nat) => St w [] (cellsE bm 43 (met (m2.rd.take j)) :: rowE vr 3 (encI .i64) m2.rd :: rowE vq 41 encW m2.q :: LT b vR2 vQ2 m2)) (fun (j : Nat) => j ≤ m2.rd.length) (fun (j : Nat) => m2.rd.length - j) (0) (Nat.zero_le _) (Sub.cons rfl (Sub.cons rfl (Sub.cons rfl (Sub.cons rfl (Sub.cons rfl (Sub.cons rfl (Sub.cons rfl (Sub.cons rfl (Sub.nil))))))))) (fun _ h => h) ?_
        intro j hjl
        refine c_seq ?_
        refine c_seq ?_
        refine c_region _ rfl ?_
        refine l_q rfl (q_move rfl rfl) rfl rfl ?_
        refine l_q rfl (q_move rfl rfl) rfl rfl ?_
        refine l_q rfl (q_lenV rfl Try.underlying27 rfl (fun _ h => h.rd 1 rfl)) rfl rfl ?_
        refine l_q rfl (q_lss rfl rfl rfl) rfl rfl ?_
        refine l_nil ?_
        refine k_then ?_
        refine Pre.caseB 75 rfl (fun h4 => ?_) (fun h4 => ?_)
        · try simp only [decide_eq_true_eq, decide_eq_false_iff_not, Bool.not_eq_true', Bool.not_eq_false'] at h4
          obtain ⟨x, hj⟩ : ∃ x, m2.rd[j]? = some x := ⟨_, List.getElem?_eq_getElem (by omega)⟩
          have hx0 := hok2.nn x (hok2.rd0 hj)
          have hx6 := hal2.lt x (hok2.rd0 hj)
          obtain ⟨k, rfl⟩ := Int.eq_ofNat_of_zero_le hx0
          have hk6 : k < 6 := by omega
          have htk : m2.rd.take (j + 1) = m2.rd.take j ++ [(k : Int)] := by rw [List.take_add_one, hj]; rfl
          have hlt : (m2.rd.take j).length = j := by rw [List.length_take]; omega
          refine c_true rfl ?_
          refine c_skip ?_
          refine k_then ?_
          refine c_seq ?_
          refine c_block ?_
          refine c_seq ?_
          refine c_seq ?_
          refine c_draw [(0, some true), (1, some true), (2, some true), (3, some true), (4, some true), (5, some true), (6, some true), (7, some true), (8, some true), (9, some true), (10, some true), (11, some true), (12, some true), (13, some true), (14, some true), (15, some true), (16, some true), (17, some true), (18, some true), (19, some true), (20, some true), (21, some true), (22, some true), (23, some true), (24, some true), (25, some true), (26, some true), (27, some true)] [] [(_, some true), (_, some true), (_, some true), (_, some true), (_, some true), (_, some true), (_, some true), (_, some true), (_, some true), (_, some true), (_, some true), (_, some true), (_, some true), (_, some true), (_, some true), (_, some true), (_, some true), (_, some true), (_, some true), (_, some true), (_, some true), (_, some true), (_, some true), (_, some true), (_, some true), (_, some true), (_, some true), (_, some true)] _ (blind_then (blind_then (blind_block (blind_then (blind_then (blind_block (blind_then (blind_block (blind_then (blind_then (blind_block (blind_then blind_body)))))))))))) rfl (by kernel_rfl) (by kernel_rfl) rfl rfl rfl (by kernel_rfl) St.drawn (fun _ h => h) ?_
          refine d_q rfl (q_move rfl rfl) rfl rfl ?_
          refine d_q rfl (q_move rfl rfl) rfl rfl ?_
          refine d_q rfl (q_indexV j rfl Try.underlying27 Try.sizeOf3 rfl (fun _ h => h.rd 1 rfl) rfl rfl (by omega)) rfl rfl ?_
          refine d_q rfl (q_loadV j 0 rfl Try.isAgg3 rfl rfl (fun _ h => h.rd 1 rfl) hj rfl) rfl rfl ?_
          refine d_q rfl (q_lss rfl rfl rfl) rfl rfl ?_
          refine d_q rfl (q_move rfl rfl) rfl rfl ?_
          refine Pre.setB (t := 83) (c := false) rfl (decide_eq_false (by omega)) ?_
          refine d_q rfl (q_move rfl rfl) rfl rfl ?_
          refine d_q rfl (q_move rfl rfl) rfl rfl ?_
          refine d_q rfl (q_indexV j rfl Try.underlying27 Try.sizeOf3 rfl (fun _ h => h.rd 1 rfl) rfl rfl (by omega)) rfl rfl ?_
          refine d_q rfl (q_loadV j 0 rfl Try.isAgg3 rfl rfl (fun _ h => h.rd 1 rfl) hj rfl) rfl rfl ?_
          refine d_q rfl (q_gtr rfl rfl rfl) rfl rfl ?_
          refine d_q rfl (q_pick_f rfl rfl rfl) rfl rfl ?_
          refine d_q rfl (q_move rfl rfl) rfl rfl ?_
          refine Pre.setB (t := 90) (c := false) rfl (decide_eq_false (by omega)) ?_
          refine d_q rfl (q_move rfl rfl) rfl rfl ?_
          refine d_q rfl (q_gtr rfl rfl rfl) rfl rfl ?_
          refine d_q rfl (q_move rfl rfl) rfl rfl ?_
          refine Pre.caseB 93 rfl (fun h5 => ?_) (fun h5 => ?_)
          · try simp only [decide_eq_true_eq, decide_eq_false_iff_not, Bool.not_eq_true', Bool.not_eq_false'] at h5
            obtain ⟨x1, hj1⟩ : ∃ x, m2.rd[j - 1]? = some x := ⟨_, List.getElem?_eq_getElem (by omega)⟩
            have hsl := srt_lt hok2.srt (by omega) hj1 hj
            refine d_q rfl (q_move rfl rfl) rfl rfl ?_
            refine d_q rfl (q_move rfl rfl) rfl rfl ?_
            refine d_q rfl (q_sub64 rfl rfl rfl (by omega)) rfl rfl ?_
            refine d_q rfl (q_indexV (j - 1) rfl Try.underlying27 Try.sizeOf3 rfl (fun _ h => h.rd 1 rfl) rfl (by omega) (by omega)) rfl rfl ?_
            refine d_q rfl (q_loadV (j - 1) 0 rfl Try.isAgg3 rfl rfl (fun _ h => h.rd 1 rfl) hj1 rfl) rfl rfl ?_
            refine d_q rfl (q_move rfl rfl) rfl rfl ?_
            refine d_q rfl (q_move rfl rfl) rfl rfl ?_
            refine d_q rfl (q_indexV j rfl Try.underlying27 Try.sizeOf3 rfl (fun _ h => h.rd 1 rfl) rfl rfl (by omega)) rfl rfl ?_
            refine d_q rfl (q_loadV j 0 rfl Try.isAgg3 rfl rfl (fun _ h => h.rd 1 rfl) hj rfl) rfl rfl ?_
            refine d_q rfl (q_geq rfl rfl rfl) rfl rfl ?_
            refine d_q rfl (q_pick_t rfl rfl rfl) rfl rfl ?_
            refine d_q rfl (q_pick_f rfl rfl rfl) rfl rfl ?_
            refine d_nil ?_
            refine k_then ?_
            refine Pre.setB (t := 105) (c := false) rfl (decide_eq_false (by omega)) ?_
            refine c_false rfl ?_
            refine c_skip ?_
            refine k_then ?_
            have hcl : (m2.rd.take j).count (k : Int) ≤ (m2.rd.take j).length := List.count_le_length
            refine c_region _ rfl ?_
            refine l_q rfl (q_move rfl rfl) rfl rfl ?_
            refine l_q rfl (q_move rfl rfl) rfl rfl ?_
            refine l_q rfl (q_indexV j rfl Try.underlying27 Try.sizeOf3 rfl (fun _ h => h.rd 1 rfl) rfl rfl (by omega)) rfl rfl ?_
            refine l_q rfl (q_loadV j 0 rfl Try.isAgg3 rfl rfl (fun _ h => h.rd 1 rfl) hj rfl) rfl rfl ?_
            refine l_q rfl (q_indexArr k rfl Try.underlying43 Try.sizeOf3 rfl rfl rfl (by omega)) rfl rfl ?_
            refine l_q rfl (q_loadC rfl Try.isAgg3 rfl (fun _ h => h.at 0 rfl) (met_get _ hk6)) rfl rfl ?_
            refine l_q rfl (q_add64 rfl rfl rfl (by omega)) rfl rfl ?_
            refine l_q rfl (q_indexArr k rfl Try.underlying43 Try.sizeOf3 rfl rfl rfl (by omega)) rfl rfl ?_
            refine l_e rfl ?_
            refine e_store rfl rfl Try.sizeOf3 rfl rfl rfl (by rw [met_len]; omega) ?_
            refine cells_eq (met_set _ hk6) ?_
            refine l_nil ?_
            refine k_block ?_
            refine k_then ?_
            refine c_region _ rfl ?_
            refine l_q rfl (q_move rfl rfl) rfl rfl ?_
            refine l_q rfl (q_inc rfl rfl rfl (by omega)) rfl rfl ?_
            refine l_q rfl (q_assign rfl rfl) rfl rfl ?_
            refine l_nil ?_
            refine pull5 ?_
            refine pull5 ?_
            refine pull5 ?_
            refine pull5 ?_
            refine pull5 ?_
            refine pull5 ?_
            exact k_round (j + 1) (by omega) (by omega) (Sub.cons rfl (Sub.cons rfl (Sub.cons rfl (Sub.cons rfl (Sub.cons rfl (Sub.cons rfl (Sub.cons rfl (Sub.cons rfl (Sub.nil))))))))) (fun _ h => by rw [htk]; exact h)
          · try simp only [decide_eq_true_eq, decide_eq_false_iff_not, Bool.not_eq_true', Bool.not_eq_false'] at h5
            refine d_not rfl rfl rfl ?_
            refine d_not rfl rfl rfl ?_
            refine d_not rfl rfl rfl ?_
            refine d_not rfl rfl rfl ?_
            refine d_not rfl rfl rfl ?_
            refine d_not rfl rfl rfl ?_
            refine d_not rfl rfl rfl ?_
            refine d_not rfl rfl rfl ?_
            refine d_not rfl rfl rfl ?_
            refine d_not rfl rfl rfl ?_
            refine d_q rfl (q_pick_f rfl rfl rfl) rfl rfl ?_
            refine d_q rfl (q_pick_f rfl rfl rfl) rfl rfl ?_
            refine d_nil ?_
            refine k_then ?_
            refine c_false rfl ?_
            refine c_skip ?_
            refine k_then ?_
            have hcl : (m2.rd.take j).count (k : Int) ≤ (m2.rd.take j).length := List.count_le_length
            refine c_region _ rfl ?_
            refine l_q rfl (q_move rfl rfl) rfl rfl ?_
            refine l_q rfl (q_move rfl rfl) rfl rfl ?_
            refine l_q rfl (q_indexV j rfl Try.underlying27 Try.sizeOf3 rfl (fun _ h => h.rd 1 rfl) rfl rfl (by omega)) rfl rfl ?_
            refine l_q rfl (q_loadV j 0 rfl Try.isAgg3 rfl rfl (fun _ h => h.rd 1 rfl) hj rfl) rfl rfl ?_
            refine l_q rfl (q_indexArr k rfl Try.underlying43 Try.sizeOf3 rfl rfl rfl (by omega)) rfl rfl ?_
            refine l_q rfl (q_loadC rfl Try.isAgg3 rfl (fun _ h => h.at 0 rfl) (met_get _ hk6)) rfl rfl ?_
            refine l_q rfl (q_add64 rfl rfl rfl (by omega)) rfl rfl ?_
            refine l_q rfl (q_indexArr k rfl Try.underlying43 Try.sizeOf3 rfl rfl rfl (by omega)) rfl rfl ?_
            refine l_e rfl ?_
            refine e_store rfl rfl Try.sizeOf3 rfl rfl rfl (by rw [met_len]; omega) ?_
            refine cells_eq (met_set _ hk6) ?_
            refine l_nil ?_
            refine k_block ?_
            refine k_then ?_
            refine c_region _ rfl ?_
            refine l_q rfl (q_move rfl rfl) rfl rfl ?_
            refine l_q rfl (q_inc rfl rfl rfl (by omega)) rfl rfl ?_
            refine l_q rfl (q_assign rfl rfl) rfl rfl ?_
            refine l_nil ?_
            refine pull5 ?_
            refine pull5 ?_
            refine pull5 ?_
            refine pull5 ?_
            refine pull5 ?_
            refine pull5 ?_
            exact k_round (j + 1) (by omega) (by omega) (Sub.cons rfl (Sub.cons rfl (Sub.cons rfl (Sub.cons rfl (Sub.cons rfl (Sub.cons rfl (Sub.cons rfl (Sub.cons rfl (Sub.nil))))))))) (fun _ h => by rw [htk]; exact h)
        · try simp only [decide_eq_true_eq, decide_eq_false_iff_not, Bool.not_eq_true', Bool.not_eq_false'] at h4
          have hje : j = m2.rd.length := by omega
          subst hje
          rw [List.take_length]
          refine c_false rfl ?_
          refine c_exit ?_
          refine k_then_exit ?_
          refine k_then_exit ?_
          refine k_block_exit ?_
          refine k_then ?_
          refine c_seq ?_
          refine c_seq ?_
          refine c_meet1 (fun (uu : Unit) => [(0, va), (3, .pointer (some ⟨b, 0, none⟩)), (4, .int .i64 (i : Int)), (6, vr), (7, .int .i64 m2.wr), (8, vq), (9, .pointer (some ⟨bm, 0, none⟩)), (142, .bool false)]) (fun (uu : Unit) => St w [] (cellsE bm 43 (met (m2.rd)) :: rowE vr 3 (encI .i64) m2.rd :: rowE vq 41 encW m2.q :: LT b vR2 vQ2 m2)) (fun (uu : Unit) => True) ?_ ?_
          · refine c_region _ rfl ?_
            refine l_q rfl (q_move rfl rfl) rfl rfl ?_
            refine l_q rfl (q_lss rfl rfl rfl) rfl rfl ?_
            refine l_q rfl (q_move rfl rfl) rfl rfl ?_
            refine Pre.setB (t := 116) (c := false) rfl (decide_eq_false (by omega)) ?_
            refine l_q rfl (q_move rfl rfl) rfl rfl ?_
            refine l_q rfl (q_gtr rfl rfl rfl) rfl rfl ?_
            refine l_q rfl (q_pick_f rfl rfl rfl) rfl rfl ?_
            refine l_q rfl (q_move rfl rfl) rfl rfl ?_
            refine Pre.setB (t := 120) (c := false) rfl (decide_eq_false (by omega)) ?_
            refine l_q rfl (q_move rfl rfl) rfl rfl ?_
            refine l_q rfl (q_geq rfl rfl rfl) rfl rfl ?_
            refine l_q rfl (q_move rfl rfl) rfl rfl ?_
            refine Pre.caseB 123 rfl (fun h5 => ?_) (fun h5 => ?_)
            · try simp only [decide_eq_true_eq, decide_eq_false_iff_not, Bool.not_eq_true', Bool.not_eq_false'] at h5
              try (have hbz := hal2.busy hok2 (by omega) (by omega))
              refine l_q rfl (q_move rfl rfl) rfl rfl ?_
              refine l_q rfl (q_lenV rfl Try.underlying27 rfl (fun _ h => h.rd 1 rfl)) rfl rfl ?_
              refine l_q rfl (q_gtr rfl rfl rfl) rfl rfl ?_
              refine l_q rfl (q_pick_t rfl rfl rfl) rfl rfl ?_
              refine l_q rfl (q_pick_f rfl rfl rfl) rfl rfl ?_
              refine l_q rfl (q_move rfl rfl) rfl rfl ?_
              try (have hrz : m2.rd.length = 0 := by rw [hex (by omega)]; rfl)
              refine Pre.setB (t := 129) (c := false) rfl (decide_eq_false (by omega)) ?_
              refine l_q rfl (q_move rfl rfl) rfl rfl ?_
              refine l_q rfl (q_lenV rfl Try.underlying33 rfl (fun _ h => h.rd 2 rfl)) rfl rfl ?_
              refine l_q rfl (q_gtr rfl rfl rfl) rfl rfl ?_
              refine l_q rfl (q_move rfl rfl) rfl rfl ?_
              try (have hrz : m2.rd.length = 0 := by rw [hex (by omega)]; rfl)
              refine Pre.caseB 133 rfl (fun h6 => ?_) (fun h6 => ?_)
              · try simp only [decide_eq_true_eq, decide_eq_false_iff_not, Bool.not_eq_true', Bool.not_eq_false'] at h6
                try (have hbz := hal2.busy hok2 (by omega) (by omega))
                refine l_q rfl (q_move rfl rfl) rfl rfl ?_
                refine l_q rfl (q_lss rfl rfl rfl) rfl rfl ?_
                refine l_q rfl (q_pick_t rfl rfl rfl) rfl rfl ?_
                refine l_q rfl (q_move rfl rfl) rfl rfl ?_
                try (have hrz : m2.rd.length = 0 := by rw [hex (by omega)]; rfl)
                refine Pre.caseB 137 rfl (fun h7 => ?_) (fun h7 => ?_)
                · try simp only [decide_eq_true_eq, decide_eq_false_iff_not, Bool.not_eq_true', Bool.not_eq_false'] at h7
                  try (have hbz := hal2.busy hok2 (by omega) (by omega))
                  refine l_q rfl (q_move rfl rfl) rfl rfl ?_
                  refine l_q rfl (q_lenV rfl Try.underlying27 rfl (fun _ h => h.rd 1 rfl)) rfl rfl ?_
                  refine l_q rfl (q_eql rfl rfl rfl) rfl rfl ?_
                  refine l_q rfl (q_pick_t rfl rfl rfl) rfl rfl ?_
                  refine l_q rfl (q_pick_f rfl rfl rfl) rfl rfl ?_
                  refine l_nil ?_
                  refine Pre.setV (t := 142) (c := .bool false) rfl (congrArg Value.bool (decide_eq_false (by omega))) ?_
                  exact k_meet (()) trivial (Sub.cons rfl (Sub.cons rfl (Sub.cons rfl (Sub.cons rfl (Sub.cons rfl (Sub.cons rfl (Sub.cons rfl (Sub.cons rfl (Sub.nil))))))))) (fun _ h => h)
                · try simp only [decide_eq_true_eq, decide_eq_false_iff_not, Bool.not_eq_true', Bool.not_eq_false'] at h7
                  try (have hbz := hal2.busy hok2 (by omega) (by omega))
                  refine l_not rfl rfl rfl ?_
                  refine l_not rfl rfl rfl ?_
                  refine l_not rfl rfl rfl ?_
                  refine l_q rfl (q_pick_f rfl rfl rfl) rfl rfl ?_
                  refine l_q rfl (q_pick_f rfl rfl rfl) rfl rfl ?_
                  refine l_nil ?_
                  exact k_meet (()) trivial (Sub.cons rfl (Sub.cons rfl (Sub.cons rfl (Sub.cons rfl (Sub.cons rfl (Sub.cons rfl (Sub.cons rfl (Sub.cons rfl (Sub.nil))))))))) (fun _ h => h)
              · try simp only [decide_eq_true_eq, decide_eq_false_iff_not, Bool.not_eq_true', Bool.not_eq_false'] at h6
                try (have hbz := hal2.busy hok2 (by omega) (by omega))
                refine l_not rfl rfl rfl ?_
                refine l_not rfl rfl rfl ?_
                refine l_q rfl (q_pick_f rfl rfl rfl) rfl rfl ?_
                refine l_q rfl (q_move rfl rfl) rfl rfl ?_
                refine l_not rfl rfl rfl ?_
                refine l_not rfl rfl rfl ?_
                refine l_not rfl rfl rfl ?_
                refine l_q rfl (q_pick_f rfl rfl rfl) rfl rfl ?_
                refine l_q rfl (q_pick_f rfl rfl rfl) rfl rfl ?_
                refine l_nil ?_
                exact k_meet (()) trivial (Sub.cons rfl (Sub.cons rfl (Sub.cons rfl (Sub.cons rfl (Sub.cons rfl (Sub.cons rfl (Sub.cons rfl (Sub.cons rfl (Sub.nil))))))))) (fun _ h => h)
            · try simp only [decide_eq_true_eq, decide_eq_false_iff_not, Bool.not_eq_true', Bool.not_eq_false'] at h5
              try (have hbz := hal2.busy hok2 (by omega) (by omega))
              refine l_not rfl rfl rfl ?_
              refine l_not rfl rfl rfl ?_
              refine l_not rfl rfl rfl ?_
              refine l_q rfl (q_pick_f rfl rfl rfl) rfl rfl ?_
              refine l_q rfl (q_pick_f rfl rfl rfl) rfl rfl ?_
              refine l_q rfl (q_move rfl rfl) rfl rfl ?_
              refine l_q rfl (q_move rfl rfl) rfl rfl ?_
              refine l_q rfl (q_lenV rfl Try.underlying33 rfl (fun _ h => h.rd 2 rfl)) rfl rfl ?_
              refine l_q rfl (q_gtr rfl rfl rfl) rfl rfl ?_
              refine l_q rfl (q_move rfl rfl) rfl rfl ?_
              try (have hrz : m2.rd.length = 0 := by rw [hex (by omega)]; rfl)
              refine Pre.caseB 133 rfl (fun h8 => ?_) (fun h8 => ?_)
              · try simp only [decide_eq_true_eq, decide_eq_false_iff_not, Bool.not_eq_true', Bool.not_eq_false'] at h8
                try (have hbz := hal2.busy hok2 (by omega) (by omega))
                refine l_q rfl (q_move rfl rfl) rfl rfl ?_
                refine l_q rfl (q_lss rfl rfl rfl) rfl rfl ?_
                refine l_q rfl (q_pick_t rfl rfl rfl) rfl rfl ?_
                refine l_q rfl (q_move rfl rfl) rfl rfl ?_
                try (have hrz : m2.rd.length = 0 := by rw [hex (by omega)]; rfl)
                refine Pre.caseB 137 rfl (fun h9 => ?_) (fun h9 => ?_)
                · try simp only [decide_eq_true_eq, decide_eq_false_iff_not, Bool.not_eq_true', Bool.not_eq_false'] at h9
                  try (have hbz := hal2.busy hok2 (by omega) (by omega))
                  refine l_q rfl (q_move rfl rfl) rfl rfl ?_
                  refine l_q rfl (q_lenV rfl Try.underlying27 rfl (fun _ h => h.rd 1 rfl)) rfl rfl ?_
                  refine l_q rfl (q_eql rfl rfl rfl) rfl rfl ?_
                  refine l_q rfl (q_pick_t rfl rfl rfl) rfl rfl ?_
                  refine l_q rfl (q_pick_f rfl rfl rfl) rfl rfl ?_
                  refine l_nil ?_
                  refine Pre.setV (t := 142) (c := .bool false) rfl (congrArg Value.bool (decide_eq_false (by omega))) ?_
                  exact k_meet (()) trivial (Sub.cons rfl (Sub.cons rfl (Sub.cons rfl (Sub.cons rfl (Sub.cons rfl (Sub.cons rfl (Sub.cons rfl (Sub.cons rfl (Sub.nil))))))))) (fun _ h => h)
                · try simp only [decide_eq_true_eq, decide_eq_false_iff_not, Bool.not_eq_true', Bool.not_eq_false'] at h9
                  try (have hbz := hal2.busy hok2 (by omega) (by omega))
                  refine l_not rfl rfl rfl ?_
                  refine l_not rfl rfl rfl ?_
                  refine l_not rfl rfl rfl ?_
                  refine l_q rfl (q_pick_f rfl rfl rfl) rfl rfl ?_
                  refine l_q rfl (q_pick_f rfl rfl rfl) rfl rfl ?_
                  refine l_nil ?_
                  exact k_meet (()) trivial (Sub.cons rfl (Sub.cons rfl (Sub.cons rfl (Sub.cons rfl (Sub.cons rfl (Sub.cons rfl (Sub.cons rfl (Sub.cons rfl (Sub.nil))))))))) (fun _ h => h)
              · try simp only [decide_eq_true_eq, decide_eq_false_iff_not, Bool.not_eq_true', Bool.not_eq_false'] at h8
                try (have hbz := hal2.busy hok2 (by omega) (by omega))
                refine l_not rfl rfl rfl ?_
                refine l_not rfl rfl rfl ?_
                refine l_q rfl (q_pick_f rfl rfl rfl) rfl rfl ?_
                refine l_q rfl (q_move rfl rfl) rfl rfl ?_
                refine l_not rfl rfl rfl ?_
                refine l_not rfl rfl rfl ?_
                refine l_not rfl rfl rfl ?_
                refine l_q rfl (q_pick_f rfl rfl rfl) rfl rfl ?_
                refine l_q rfl (q_pick_f rfl rfl rfl) rfl rfl ?_
                refine l_nil ?_
                exact k_meet (()) trivial (Sub.cons rfl (Sub.cons rfl (Sub.cons rfl (Sub.cons rfl (Sub.cons rfl (Sub.cons rfl (Sub.cons rfl (Sub.cons rfl (Sub.nil))))))))) (fun _ h => h)
          · intro uu _
            refine c_false rfl ?_
            refine c_skip ?_
            refine k_then ?_
            refine c_seq ?_
            refine c_seq ?_
            refine c_region _ rfl ?_
            refine l_q rfl (q_move rfl rfl) rfl rfl ?_
            refine l_q rfl (q_geq rfl rfl rfl) rfl rfl ?_
            refine l_nil ?_
            refine k_then ?_
            refine c_meet1 (fun (uu : Unit) => [(0, va), (3, .pointer (some ⟨b, 0, none⟩)), (4, .int .i64 (i : Int)), (6, vr), (7, .int .i64 m2.wr), (8, vq), (9, .pointer (some ⟨bm, 0, none⟩))]) (fun (uu : Unit) => St w [] (cellsE bm 43 (met (m2.rd ++ wrs m2)) :: rowE vr 3 (encI .i64) m2.rd :: rowE vq 41 encW m2.q :: LT b vR2 vQ2 m2)) (fun (uu : Unit) => True) ?_ ?_
            · refine Pre.caseB 144 rfl (fun h6 => ?_) (fun h6 => ?_)
              · try simp only [decide_eq_true_eq, decide_eq_false_iff_not, Bool.not_eq_true', Bool.not_eq_false'] at h6
                obtain ⟨k, hk⟩ := Int.eq_ofNat_of_zero_le h6
                have hk6 : k < 6 := by omega
                have hwr : m2.rd ++ wrs m2 = m2.rd ++ [(k : Int)] := by unfold wrs; rw [if_pos h6, hk]
                have hcl : (m2.rd).count (k : Int) ≤ (m2.rd).length := List.count_le_length
                refine c_true rfl ?_
                refine c_region _ rfl ?_
                refine l_q rfl (q_move rfl rfl) rfl rfl ?_
                refine l_q rfl (q_indexArr k rfl Try.underlying43 Try.sizeOf3 rfl rfl hk (by omega)) rfl rfl ?_
                refine l_q rfl (q_loadC rfl Try.isAgg3 rfl (fun _ h => h.at 0 rfl) (met_get _ hk6)) rfl rfl ?_
                refine l_q rfl (q_add64 rfl rfl rfl (by omega)) rfl rfl ?_
                refine l_q rfl (q_indexArr k rfl Try.underlying43 Try.sizeOf3 rfl rfl hk (by omega)) rfl rfl ?_
                refine l_e rfl ?_
                refine e_store rfl rfl Try.sizeOf3 rfl rfl rfl (by rw [met_len]; omega) ?_
                refine cells_eq (met_set _ hk6) ?_
                refine l_nil ?_
                refine pull5 ?_
                refine pull5 ?_
                refine pull5 ?_
                refine pull5 ?_
                refine pull5 ?_
                refine pull5 ?_
                exact k_meet (()) trivial (Sub.cons rfl (Sub.cons rfl (Sub.cons rfl (Sub.cons rfl (Sub.cons rfl (Sub.cons rfl (Sub.cons rfl (Sub.nil)))))))) (fun _ h => by rw [hwr]; exact h)
              · try simp only [decide_eq_true_eq, decide_eq_false_iff_not, Bool.not_eq_true', Bool.not_eq_false'] at h6
                have hwr : m2.rd ++ wrs m2 = m2.rd := by unfold wrs; rw [if_neg h6, List.append_nil]
                refine c_false rfl ?_
                refine c_skip ?_
                exact k_meet (()) trivial (Sub.cons rfl (Sub.cons rfl (Sub.cons rfl (Sub.cons rfl (Sub.cons rfl (Sub.cons rfl (Sub.cons rfl (Sub.nil)))))))) (fun _ h => by rw [hwr]; exact h)
            · intro uu _
              refine c_seq ?_
              refine c_seq ?_
              refine c_region _ rfl ?_
              refine l_q rfl (q_assign rfl rfl) rfl rfl ?_
              refine l_nil ?_
              refine k_then ?_
              refine c_block ?_
              refine c_loop1 (fun (j : Nat) => [(0, va), (3, .pointer (some ⟨b, 0, none⟩)), (4, .int .i64 (i : Int)), (6, vr), (7, .int .i64 m2.wr), (8, vq), (9, .pointer (some ⟨bm, 0, none⟩)), (11, .int .i64 (j : Int))]) (fun (j : Nat) => St w [] (cellsE bm 43 (met (m2.rd ++ wrs m2 ++ (m2.q.take j).map Prod.fst)) :: rowE vr 3 (encI .i64) m2.rd :: rowE vq 41 encW m2.q :: LT b vR2 vQ2 m2)) (fun (j : Nat) => j ≤ m2.q.length) (fun (j : Nat) => m2.q.length - j) (0) (Nat.zero_le _) (Sub.cons rfl (Sub.cons rfl (Sub.cons rfl (Sub.cons rfl (Sub.cons rfl (Sub.cons rfl (Sub.cons rfl (Sub.cons rfl (Sub.nil))))))))) (fun _ h => by rw [List.take_zero, List.map_nil, List.append_nil]; exact h) ?_
              intro j hjl
              refine c_seq ?_
              refine c_seq ?_
              refine c_region _ rfl ?_
              refine l_q rfl (q_move rfl rfl) rfl rfl ?_
              refine l_q rfl (q_move rfl rfl) rfl rfl ?_
              refine l_q rfl (q_lenV rfl Try.underlying33 rfl (fun _ h => h.rd 2 rfl)) rfl rfl ?_
              refine l_q rfl (q_lss rfl rfl rfl) rfl rfl ?_
              refine l_nil ?_
              refine k_then ?_
              refine Pre.caseB 153 rfl (fun h4 => ?_) (fun h4 => ?_)
              · try simp only [decide_eq_true_eq, decide_eq_false_iff_not, Bool.not_eq_true', Bool.not_eq_false'] at h4
                obtain ⟨y, hj⟩ : ∃ y, m2.q[j]? = some y := ⟨_, List.getElem?_eq_getElem (by omega)⟩
                have hx0 := hok2.nn _ (hok2.q0 hj)
                have hx6 := hal2.lt _ (hok2.q0 hj)
                obtain ⟨k, hk⟩ := Int.eq_ofNat_of_zero_le hx0
                have hk6 : k < 6 := by omega
                have htk : m2.rd ++ wrs m2 ++ (m2.q.take (j + 1)).map Prod.fst = m2.rd ++ wrs m2 ++ (m2.q.take j).map Prod.fst ++ [(k : Int)] := by rw [List.take_add_one, hj, List.map_append, ← List.append_assoc, ← hk]; rfl
                have hlt : (m2.rd ++ wrs m2 ++ (m2.q.take j).map Prod.fst).length ≤ m2.rd.length + 1 + m2.q.length := by simp only [List.length_append, List.length_map, List.length_take, wrs]; split <;> simp <;> omega
                refine c_true rfl ?_
                refine c_skip ?_
                refine k_then ?_
                refine c_seq ?_
                refine c_block ?_
                refine c_seq ?_
                refine c_seq ?_
                refine c_region _ rfl ?_
                refine l_q rfl (q_move rfl rfl) rfl rfl ?_
                refine l_q rfl (q_move rfl rfl) rfl rfl ?_
                refine l_q rfl (q_indexV j rfl Try.underlying33 Try.sizeOf41 rfl (fun _ h => h.rd 2 rfl) rfl rfl (by omega)) rfl rfl ?_
                refine l_q rfl (q_fieldAddr rfl Try.underlying41 rfl Try.sizeOf3 rfl rfl) rfl rfl ?_
                refine l_q rfl (q_loadV j 0 rfl Try.isAgg3 rfl rfl (fun _ h => h.rd 2 rfl) hj rfl) rfl rfl ?_
                refine l_q rfl (q_lss rfl rfl rfl) rfl rfl ?_
                refine l_q rfl (q_move rfl rfl) rfl rfl ?_
                refine Pre.setB (t := 162) (c := false) rfl (decide_eq_false (by omega)) ?_
                refine l_q rfl (q_move rfl rfl) rfl rfl ?_
                refine l_q rfl (q_move rfl rfl) rfl rfl ?_
                refine l_q rfl (q_indexV j rfl Try.underlying33 Try.sizeOf41 rfl (fun _ h => h.rd 2 rfl) rfl rfl (by omega)) rfl rfl ?_
                refine l_q rfl (q_fieldAddr rfl Try.underlying41 rfl Try.sizeOf3 rfl rfl) rfl rfl ?_
                refine l_q rfl (q_loadV j 0 rfl Try.isAgg3 rfl rfl (fun _ h => h.rd 2 rfl) hj rfl) rfl rfl ?_
                refine l_q rfl (q_gtr rfl rfl rfl) rfl rfl ?_
                refine l_q rfl (q_pick_f rfl rfl rfl) rfl rfl ?_
                refine l_nil ?_
                refine k_then ?_
                refine Pre.setB (t := 169) (c := false) rfl (decide_eq_false (by omega)) ?_
                refine c_false rfl ?_
                refine c_skip ?_
                refine k_then ?_
                have hcl : (m2.rd ++ wrs m2 ++ (m2.q.take j).map Prod.fst).count (k : Int) ≤ (m2.rd ++ wrs m2 ++ (m2.q.take j).map Prod.fst).length := List.count_le_length
                refine c_region _ rfl ?_
                refine l_q rfl (q_move rfl rfl) rfl rfl ?_
                refine l_q rfl (q_move rfl rfl) rfl rfl ?_
                refine l_q rfl (q_indexV j rfl Try.underlying33 Try.sizeOf41 rfl (fun _ h => h.rd 2 rfl) rfl rfl (by omega)) rfl rfl ?_
                refine l_q rfl (q_fieldAddr rfl Try.underlying41 rfl Try.sizeOf3 rfl rfl) rfl rfl ?_
                refine l_q rfl (q_loadV j 0 rfl Try.isAgg3 rfl rfl (fun _ h => h.rd 2 rfl) hj rfl) rfl rfl ?_
                refine l_q rfl (q_indexArr k rfl Try.underlying43 Try.sizeOf3 rfl rfl hk (by omega)) rfl rfl ?_
                refine l_q rfl (q_loadC rfl Try.isAgg3 rfl (fun _ h => h.at 0 rfl) (met_get _ hk6)) rfl rfl ?_
                refine l_q rfl (q_add64 rfl rfl rfl (by omega)) rfl rfl ?_
                refine l_q rfl (q_indexArr k rfl Try.underlying43 Try.sizeOf3 rfl rfl hk (by omega)) rfl rfl ?_
                refine l_e rfl ?_
                refine e_store rfl rfl Try.sizeOf3 rfl rfl rfl (by rw [met_len]; omega) ?_
                refine cells_eq (met_set _ hk6) ?_
                refine l_nil ?_
                refine k_block ?_
                refine k_then ?_
                refine c_region _ rfl ?_
                refine l_q rfl (q_move rfl rfl) rfl rfl ?_
                refine l_q rfl (q_inc rfl rfl rfl (by omega)) rfl rfl ?_
                refine l_q rfl (q_assign rfl rfl) rfl rfl ?_
                refine l_nil ?_
                refine pull5 ?_
                refine pull5 ?_
                refine pull5 ?_
                refine pull5 ?_
                refine pull5 ?_
                refine pull5 ?_
                exact k_round (j + 1) (by omega) (by omega) (Sub.cons rfl (Sub.cons rfl (Sub.cons rfl (Sub.cons rfl (Sub.cons rfl (Sub.cons rfl (Sub.cons rfl (Sub.cons rfl (Sub.nil))))))))) (fun _ h => by rw [htk]; exact h)
              · try simp only [decide_eq_true_eq, decide_eq_false_iff_not, Bool.not_eq_true', Bool.not_eq_false'] at h4
                have hje : j = m2.q.length := by omega
                subst hje
                rw [List.take_length]
                refine c_false rfl ?_
                refine c_exit ?_
                refine k_then_exit ?_
                refine k_then_exit ?_
                refine k_block_exit ?_
                refine k_then ?_
                refine c_seq ?_
                refine c_region _ rfl ?_
                refine l_q rfl (q_assign rfl rfl) rfl rfl ?_
                refine l_nil ?_
                refine k_then ?_
                refine c_block ?_
                refine c_loop1 (fun (k : Nat) => [(0, va), (3, .pointer (some ⟨b, 0, none⟩)), (4, .int .i64 (i : Int)), (6, vr), (7, .int .i64 m2.wr), (8, vq), (9, .pointer (some ⟨bm, 0, none⟩)), (12, .int .i64 (k : Int))]) (fun (k : Nat) => St w [] (cellsE bm 43 (met (m2.rd ++ wrs m2 ++ m2.q.map Prod.fst)) :: rowE vr 3 (encI .i64) m2.rd :: rowE vq 41 encW m2.q :: LT b vR2 vQ2 m2)) (fun (k : Nat) => k ≤ 6) (fun (k : Nat) => 6 - k) (0) (Nat.zero_le _) (Sub.cons rfl (Sub.cons rfl (Sub.cons rfl (Sub.cons rfl (Sub.cons rfl (Sub.cons rfl (Sub.cons rfl (Sub.cons rfl (Sub.nil))))))))) (fun _ h => h) ?_
                intro k hkl
                refine c_seq ?_
                refine c_seq ?_
                refine c_region _ rfl ?_
                refine l_q rfl (q_move rfl rfl) rfl rfl ?_
                refine l_q rfl (q_lss rfl rfl rfl) rfl rfl ?_
                refine l_nil ?_
                refine k_then ?_
                refine Pre.caseB 180 rfl (fun h7 => ?_) (fun h7 => ?_)
                · try simp only [decide_eq_true_eq, decide_eq_false_iff_not, Bool.not_eq_true', Bool.not_eq_false'] at h7
                  have hk6 : k < 6 := by omega
                  have hone := met_one hok2 (k : Int)
                  refine c_true rfl ?_
                  refine c_skip ?_
                  refine k_then ?_
                  refine c_seq ?_
                  refine c_block ?_
                  refine c_seq ?_
                  refine c_region _ rfl ?_
                  refine l_q rfl (q_move rfl rfl) rfl rfl ?_
                  refine l_q rfl (q_indexArr k rfl Try.underlying43 Try.sizeOf3 rfl rfl rfl (by omega)) rfl rfl ?_
                  refine l_q rfl (q_loadC rfl Try.isAgg3 rfl (fun _ h => h.at 0 rfl) (met_get _ hk6)) rfl rfl ?_
                  refine l_q rfl (q_gtr rfl rfl rfl) rfl rfl ?_
                  refine l_nil ?_
                  refine k_then ?_
                  refine Pre.setB (t := 186) (c := false) rfl (decide_eq_false (by omega)) ?_
                  refine c_false rfl ?_
                  refine c_skip ?_
                  refine k_block ?_
                  refine k_then ?_
                  refine c_region _ rfl ?_
                  refine l_q rfl (q_move rfl rfl) rfl rfl ?_
                  refine l_q rfl (q_inc rfl rfl rfl (by omega)) rfl rfl ?_
                  refine l_q rfl (q_assign rfl rfl) rfl rfl ?_
                  refine l_nil ?_
                  exact k_round (k + 1) (by omega) (by omega) (Sub.cons rfl (Sub.cons rfl (Sub.cons rfl (Sub.cons rfl (Sub.cons rfl (Sub.cons rfl (Sub.cons rfl (Sub.cons rfl (Sub.nil))))))))) (fun _ h => h)
                · try simp only [decide_eq_true_eq, decide_eq_false_iff_not, Bool.not_eq_true', Bool.not_eq_false'] at h7
                  refine drop0 ?_
                  refine drop0 ?_
                  refine drop0 ?_
                  refine c_false rfl ?_
                  refine c_exit ?_
                  refine k_then_exit ?_
                  refine k_then_exit ?_
                  refine k_block_exit ?_
                  refine k_block ?_
                  refine k_then ?_
                  refine c_region _ rfl ?_
                  refine l_q rfl (q_move rfl rfl) rfl rfl ?_
                  refine l_q rfl (q_inc rfl rfl rfl (by omega)) rfl rfl ?_
                  refine l_q rfl (q_assign rfl rfl) rfl rfl ?_
                  refine l_nil ?_
                  exact k_round ((i + 1, m2, vR2, vQ2)) (by dsimp only; omega) ⟨by dsimp only; omega, hok2, hal2⟩ (Sub.cons rfl (Sub.cons rfl (Sub.cons rfl (Sub.nil)))) (fun _ h => h)
    · try simp only [decide_eq_true_eq, decide_eq_false_iff_not, Bool.not_eq_true', Bool.not_eq_false'] at h1
      refine c_false rfl ?_
      refine c_exit ?_
      refine k_then_exit ?_
      refine k_then_exit ?_
      refine k_block_exit ?_
      refine k_then ?_
      refine c_seq ?_
      refine c_region _ rfl ?_
      refine l_e rfl ?_
      refine e_call_00 (awake_spec) rfl rfl rfl Try.call11 rfl (fun _ _ => trivial) ?_
      intro _ _
      refine l_q rfl (q_assign rfl rfl) rfl rfl ?_
      refine l_nil ?_
      refine k_then ?_
      refine c_ret ?_
      refine r_one rfl rfl ?_
      exact fun _ h => ⟨(), rfl, trivial, h.nothing⟩
theorem latchAlone_walk (w : World) (A0 : Option Addr) (n0 c0 : Nat) (x0 : List Value) (e0 : x0.length = n0 * kinds_0.length) (rd0 : Rd w w.heap.size A0 x0) (l0 : n0 ≤ c0) (m0 : c0 ≤ maxLen) (kk0 : ∀ i, i < n0 → Kinds kinds_0 ((x0.drop (i * kinds_0.length)).take kinds_0.length)) :
    Calls Try.prog 7 #[.slice A0 n0 c0] w fun e w' => e = .returned (.bool true) ∧ Below w.heap.size w w' := by
  obtain ⟨l, rfl, rfl, hW⟩ := flat_of encSt (ks := kinds_0) rfl stp_one n0 x0 e0 kk0
  exact con_walk (alone_law l) (rdv_of rd0 l0)
end Go.Proofs.Ytlakembncfkimaa
