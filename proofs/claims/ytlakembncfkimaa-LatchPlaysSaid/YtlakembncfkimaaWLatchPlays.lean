/- LatchPlays, walked -/
import Derived.Test.YtlakembncfkimaaJ
set_option linter.unusedVariables false
set_option linter.unusedSimpArgs false
namespace Go.Proofs.Ytlakembncfkimaa
open Go.Sep Go.RowKit

set_option maxRecDepth 100000 in
set_option maxHeartbeats 1000000 in
theorem plays_law {va : Value} (l : List Stp) (hW : ∀ a ∈ l, (Lit.int .i64 a.what).wf = true ∧ (Lit.int .i64 a.t).wf = true) : Con Try.prog 9 [va] (fun w => RdV w va encSt l) [] (fun _ : Unit => .bool true) (fun _ => True) (fun _ => []) := by
  intro w hl hH
  refine enter (n := 167) (vs := [va]) (St w [] []) Try.func9 rfl rfl rfl (St.init hH) ?_
  refine c_seq ?_
  refine c_region _ rfl ?_
  refine l_q rfl (q_assign rfl rfl) rfl rfl ?_
  refine l_nil ?_
  refine k_then ?_
  refine c_seq ?_
  refine c_region _ rfl ?_
  refine l_e rfl ?_
  refine e_call_03 (new_spec) rfl rfl rfl Try.call10 rfl (fun _ _ => trivial) ?_
  intro b _
  refine l_e rfl ?_
  refine e_call_03 (rnew_spec) rfl rfl rfl Try.call21 rfl (fun _ _ => trivial) ?_
  intro c _
  refine l_q rfl (q_assign rfl rfl) rfl rfl ?_
  refine l_q rfl (q_assign rfl rfl) rfl rfl ?_
  refine l_nil ?_
  refine k_then ?_
  refine c_seq ?_
  refine c_seq ?_
  refine c_region _ rfl ?_
  refine l_q rfl (q_move rfl rfl) rfl rfl ?_
  refine l_q rfl (q_eqp rfl Try.underlying23 rfl rfl) rfl rfl ?_
  refine l_q rfl (q_move rfl rfl) rfl rfl ?_
  refine Pre.setB (t := 17) (c := false) rfl (rfl) ?_
  refine l_q rfl (q_move rfl rfl) rfl rfl ?_
  refine l_q rfl (q_lenV rfl Try.underlying36 rfl (fun _ h => hl.keep h (by simp [dom]))) rfl rfl ?_
  refine l_q rfl (q_gtr rfl rfl rfl) rfl rfl ?_
  refine l_q rfl (q_pick_f rfl rfl rfl) rfl rfl ?_
  refine l_nil ?_
  refine k_then ?_
  refine Pre.caseB 21 rfl (fun h20 => ?_) (fun h20 => ?_)
  · try simp only [decide_eq_true_eq, decide_eq_false_iff_not, Bool.not_eq_true', Bool.not_eq_false'] at h20
    refine c_true rfl ?_
    refine c_seq ?_
    refine c_region _ rfl ?_
    refine l_q rfl (q_move rfl rfl) rfl rfl ?_
    refine l_q rfl (q_nep rfl Try.underlying23 rfl rfl) rfl rfl ?_
    refine l_q rfl (q_move rfl rfl) rfl rfl ?_
    refine Pre.setB (t := 24) (c := true) rfl (rfl) ?_
    refine l_e rfl ?_
    refine e_call_00 (awake_spec) rfl rfl rfl Try.call11 rfl (fun _ _ => trivial) ?_
    intro _ _
    refine l_q rfl (q_pick_t rfl rfl rfl) rfl rfl ?_
    refine l_q rfl (q_assign rfl rfl) rfl rfl ?_
    refine l_nil ?_
    refine k_then ?_
    refine c_ret ?_
    refine k_then_ret ?_
    refine r_one rfl rfl ?_
    exact fun _ h => ⟨(), rfl, trivial, h.nothing⟩
  · try simp only [decide_eq_true_eq, decide_eq_false_iff_not, Bool.not_eq_true', Bool.not_eq_false'] at h20
    refine c_false rfl ?_
    refine c_skip ?_
    refine k_then ?_
    refine c_seq ?_
    refine c_seq ?_
    refine c_region _ rfl ?_
    refine l_q rfl (q_assign rfl rfl) rfl rfl ?_
    refine l_nil ?_
    refine k_then ?_
    refine c_block ?_
    refine pull2 ?_
    refine pull2 ?_
    refine pull2 ?_
    refine pull5 ?_
    refine pull5 ?_
    refine pull5 ?_
    refine c_loop6 (fun (i : Nat) (m : La) (vR : Value) (vQ : Value) (vR2 : Value) (vQ2 : Value) => [(0, va), (3, .pointer (some ⟨b, 0, none⟩)), (4, .pointer (some ⟨c, 0, none⟩)), (5, .int .i64 (i : Int))]) (fun (i : Nat) (m : La) (vR : Value) (vQ : Value) (vR2 : Value) (vQ2 : Value) => St w [] (LT b vR vQ (m) ++ RT c vR2 vQ2 (m))) (fun (i : Nat) (m : La) (vR : Value) (vQ : Value) (vR2 : Value) (vQ2 : Value) => i ≤ l.length ∧ m.Ok i ∧ Fits m) (fun (i : Nat) (m : La) (vR : Value) (vQ : Value) (vR2 : Value) (vQ2 : Value) => l.length - i) (0) (newL) (.slice none 0 0) (.slice none 0 0) (.slice none 0 0) (.slice none 0 0) ⟨Nat.zero_le _, new_ok, fit_new⟩ (Sub.cons rfl (Sub.cons rfl (Sub.cons rfl (Sub.cons rfl (Sub.nil))))) (fun _ h => h) ?_
    intro i m vR vQ vR2 vQ2 hp
    refine c_seq ?_
    refine c_seq ?_
    obtain ⟨hi, hok, hft⟩ := hp
    refine c_region _ rfl ?_
    refine l_q rfl (q_move rfl rfl) rfl rfl ?_
    refine l_q rfl (q_move rfl rfl) rfl rfl ?_
    refine l_q rfl (q_lenV rfl Try.underlying36 rfl (fun _ h => hl.keep h (by simp [dom]))) rfl rfl ?_
    refine l_q rfl (q_lss rfl rfl rfl) rfl rfl ?_
    refine l_nil ?_
    refine k_then ?_
    refine Pre.caseB 30 rfl (fun h1 => ?_) (fun h1 => ?_)
    · try simp only [decide_eq_true_eq, decide_eq_false_iff_not, Bool.not_eq_true', Bool.not_eq_false'] at h1
      obtain ⟨s, hx⟩ : ∃ s, l[i]? = some s := ⟨_, List.getElem?_eq_getElem (by omega)⟩
      have hsw := hW s (List.mem_of_getElem? hx)
      have hst := wf_i64 hsw.2
      have ht0 := Int.emod_nonneg s.t (show (7 : Int) ≠ 0 by decide)
      have ht6 := Int.emod_lt_of_pos s.t (show (0 : Int) < 7 by decide)
      refine c_true rfl ?_
      refine c_skip ?_
      refine k_then ?_
      refine c_seq ?_
      refine c_block ?_
      refine c_seq ?_
      refine c_region _ rfl ?_
      refine l_q rfl (q_move rfl rfl) rfl rfl ?_
      refine l_q rfl (q_move rfl rfl) rfl rfl ?_
      refine l_q rfl (q_indexV i rfl Try.underlying36 Try.sizeOf39 rfl (fun _ h => hl.keep h (by simp [dom])) rfl rfl (by omega)) rfl rfl ?_
      refine l_q rfl (q_loadVAgg i rfl Try.isAgg39 Try.sizeOf39 rfl rfl (fun _ h => hl.keep h (by simp [dom])) hx) rfl rfl ?_
      refine l_e rfl ?_
      refine e_alloc rfl rfl rfl Try.zeroValue39 ?_
      intro bs
      refine l_e rfl ?_
      refine e_storeAgg rfl rfl Try.sizeOf39 rfl rfl rfl (encSt.one s) (Nat.le_of_ble_eq_true rfl) ?_
      refine cells_eq (show _ = [.int .i64 s.what, .int .i64 s.t, .bool s.wr] from rfl) ?_
      refine l_nil ?_
      refine k_then ?_
      refine c_seq ?_
      refine c_region _ rfl ?_
      refine l_q rfl (q_fieldAddr rfl Try.underlying39 rfl Try.sizeOf3 rfl rfl) rfl rfl ?_
      refine l_q rfl (q_loadC rfl Try.isAgg3 rfl (fun _ h => h.at 0 rfl) rfl) rfl rfl ?_
      refine l_q rfl (q_assign rfl rfl) rfl rfl ?_
      refine l_nil ?_
      refine k_then ?_
      refine c_seq ?_
      refine c_seq ?_
      refine c_region _ rfl ?_
      refine l_q rfl (q_move rfl rfl) rfl rfl ?_
      refine l_q rfl (q_rem_nn rfl rfl rfl (by omega) (by omega)) rfl rfl ?_
      refine l_q rfl (q_gtr rfl rfl rfl) rfl rfl ?_
      refine l_nil ?_
      refine k_then ?_
      refine pull6 ?_
      refine pull6 ?_
      refine pull6 ?_
      refine pull6 ?_
      refine pull6 ?_
      refine pull6 ?_
      refine pull6 ?_
      refine c_meet1 (fun (t : Int) => [(0, va), (3, .pointer (some ⟨b, 0, none⟩)), (4, .pointer (some ⟨c, 0, none⟩)), (5, .int .i64 (i : Int)), (6, .pointer (some ⟨bs, 0, none⟩)), (7, .int .i64 t)]) (fun (t : Int) => St w [] (cellsE bs 39 [.int .i64 s.what, .int .i64 s.t, .bool s.wr] :: (LT b vR vQ (m) ++ RT c vR2 vQ2 (m)))) (fun (t : Int) => (Lit.int .i64 t).wf = true) ?_ ?_
      · refine Pre.caseB 41 rfl (fun h2 => ?_) (fun h2 => ?_)
        · try simp only [decide_eq_true_eq, decide_eq_false_iff_not, Bool.not_eq_true', Bool.not_eq_false'] at h2
          refine c_true rfl ?_
          refine c_region _ rfl ?_
          refine l_q rfl (q_move rfl rfl) rfl rfl ?_
          refine l_e rfl ?_
          refine e_call_00 (place_spec s.t 7 (by decide) (by decide)) rfl rfl rfl Try.call19 rfl (fun _ _ => trivial) ?_
          intro _ _
          refine l_q rfl (q_sub64 rfl rfl rfl (by omega)) rfl rfl ?_
          refine l_q rfl (q_assign rfl rfl) rfl rfl ?_
          refine l_nil ?_
          exact k_meet (s.t % 7 - 1) (by simp only [Lit.wf, Bool.and_eq_true, decide_eq_true_eq]; exact ⟨show (-9223372036854775808 : Int) ≤ _ by omega, show _ ≤ (9223372036854775807 : Int) by omega⟩) (Sub.cons rfl (Sub.cons rfl (Sub.cons rfl (Sub.cons rfl (Sub.cons rfl (Sub.cons rfl (Sub.nil))))))) (fun _ h => h)
        · try simp only [decide_eq_true_eq, decide_eq_false_iff_not, Bool.not_eq_true', Bool.not_eq_false'] at h2
          refine c_false rfl ?_
          refine c_skip ?_
          exact k_meet (s.t) hsw.2 (Sub.cons rfl (Sub.cons rfl (Sub.cons rfl (Sub.cons rfl (Sub.cons rfl (Sub.cons rfl (Sub.nil))))))) (fun _ h => h)
      · intro t htw
        refine c_seq ?_
        refine c_region _ rfl ?_
        refine l_q rfl (q_assign rfl rfl) rfl rfl ?_
        refine l_nil ?_
        refine k_then ?_
        refine c_seq ?_
        refine c_meet5 (fun (m2 : La) (vR3 : Value) (vQ3 : Value) (vR4 : Value) (vQ4 : Value) => [(0, va), (3, .pointer (some ⟨b, 0, none⟩)), (4, .pointer (some ⟨c, 0, none⟩)), (5, .int .i64 (i : Int)), (8, .bool true)]) (fun (m2 : La) (vR3 : Value) (vQ3 : Value) (vR4 : Value) (vQ4 : Value) => St w [] (LT b vR3 vQ3 (m2) ++ RT c vR4 vQ4 (m2))) (fun (m2 : La) (vR3 : Value) (vQ3 : Value) (vR4 : Value) (vQ4 : Value) => m2.Ok (i + 1) ∧ Fits m2) ?_ ?_
        · refine c_block ?_
          refine c_seq ?_
          refine c_region _ rfl ?_
          refine l_q rfl (q_fieldAddr rfl Try.underlying39 rfl Try.sizeOf3 rfl rfl) rfl rfl ?_
          refine l_q rfl (q_loadC rfl Try.isAgg3 rfl (fun _ h => h.at 0 rfl) rfl) rfl rfl ?_
          refine l_q rfl (q_leq rfl rfl rfl) rfl rfl ?_
          refine l_q rfl (q_assign rfl rfl) rfl rfl ?_
          refine l_nil ?_
          refine k_then ?_
          refine Pre.caseB 65 rfl (fun h3 => ?_) (fun h3 => ?_)
          · try simp only [decide_eq_true_eq, decide_eq_false_iff_not, Bool.not_eq_true', Bool.not_eq_false'] at h3
            refine c_true rfl ?_
            refine c_draw [(0, some true), (1, some true), (2, some true), (3, some true), (5, some true), (6, some true), (7, some true), (8, some true), (4, some false), (9, some false), (10, some true), (11, some true)] [] [(_, some true), (_, some true), (_, some true), (_, some true), (_, some true), (_, some true), (_, some true), (_, some true), (_, some false), (_, some false), (_, some true), (_, some true)] (fun w2 => (cellsE bs 39 [.int .i64 s.what, .int .i64 s.t, .bool s.wr]).at w2) (blind_block (blind_then (blind_block (blind_then (blind_then (blind_block (blind_then blind_body))))))) rfl (by kernel_rfl) (by kernel_rfl) rfl rfl rfl (by kernel_rfl) St.drawn (fun _ h => h.at 0 rfl) ?_
            refine d_q rfl (q_move rfl rfl) rfl rfl ?_
            refine d_q rfl (q_move rfl rfl) rfl rfl ?_
            refine d_q rfl (q_fieldAddr rfl Try.underlying39 rfl Try.sizeOf4 rfl rfl) rfl rfl ?_
            refine d_q rfl (q_loadC rfl Try.isAgg4 rfl (fun _ h => h) rfl) rfl rfl ?_
            refine d_q rfl (q_move rfl rfl) rfl rfl ?_
            refine d_q rfl (q_move rfl rfl) rfl rfl ?_
            refine d_q rfl (q_fieldAddr rfl Try.underlying39 rfl Try.sizeOf4 rfl rfl) rfl rfl ?_
            refine d_q rfl (q_loadC rfl Try.isAgg4 rfl (fun _ h => h) rfl) rfl rfl ?_
            refine pull3 ?_
            refine pull3 ?_
            refine pull3 ?_
            refine d_e rfl ?_
            refine e_call_33 (take_spec hok (by omega) b vR vQ t s.wr) rfl rfl rfl Try.call12 rfl (fun _ _ => trivial) ?_
            intro x1 _
            refine d_held (fun _ h => h.at 3 rfl) ?_
            refine pull6 ?_
            refine pull6 ?_
            refine pull6 ?_
            refine d_e rfl ?_
            refine e_call_33 (rtake_spec hok (by omega) c vR2 vQ2 t s.wr) rfl rfl rfl Try.call22 rfl (fun _ _ => trivial) ?_
            intro x2 _
            refine d_held (fun _ h => h.at 6 rfl) ?_
            refine d_q rfl (q_eqb rfl Try.underlying4 rfl rfl) rfl rfl ?_
            refine d_q rfl (q_assign rfl rfl) rfl rfl ?_
            refine d_nil ?_
            refine k_block ?_
            refine pull6 ?_
            refine drop0 ?_
            refine pull2 ?_
            refine pull2 ?_
            refine pull2 ?_
            refine pull5 ?_
            refine pull5 ?_
            refine pull5 ?_
            refine Pre.setV (t := 8) (c := .bool true) rfl (congrArg Value.bool (by simp)) ?_
            exact k_meet ((takeL m t s.wr, x1.1, x1.2, x2.1, x2.2)) ⟨take_ok hok t s.wr, fit_take hft htw s.wr⟩ (Sub.cons rfl (Sub.cons rfl (Sub.cons rfl (Sub.cons rfl (Sub.cons rfl (Sub.nil)))))) (fun _ h => h)
          · try simp only [decide_eq_true_eq, decide_eq_false_iff_not, Bool.not_eq_true', Bool.not_eq_false'] at h3
            refine c_false rfl ?_
            refine c_seq ?_
            refine c_region _ rfl ?_
            refine l_q rfl (q_fieldAddr rfl Try.underlying39 rfl Try.sizeOf3 rfl rfl) rfl rfl ?_
            refine l_q rfl (q_loadC rfl Try.isAgg3 rfl (fun _ h => h.at 0 rfl) rfl) rfl rfl ?_
            refine l_q rfl (q_eql rfl rfl rfl) rfl rfl ?_
            refine l_q rfl (q_assign rfl rfl) rfl rfl ?_
            refine l_nil ?_
            refine k_then ?_
            refine Pre.caseB 80 rfl (fun h3 => ?_) (fun h3 => ?_)
            · try simp only [decide_eq_true_eq, decide_eq_false_iff_not, Bool.not_eq_true', Bool.not_eq_false'] at h3
              refine c_true rfl ?_
              refine c_draw [(0, some true), (1, some true), (2, some true), (3, some true), (5, some true), (6, some true), (7, some true), (8, some true), (4, some false), (9, some false), (10, some true), (11, some true)] [] [(_, some true), (_, some true), (_, some true), (_, some true), (_, some true), (_, some true), (_, some true), (_, some true), (_, some false), (_, some false), (_, some true), (_, some true)] (fun w2 => (cellsE bs 39 [.int .i64 s.what, .int .i64 s.t, .bool s.wr]).at w2) (blind_block (blind_then (blind_block (blind_then (blind_then (blind_block (blind_then blind_body))))))) rfl (by kernel_rfl) (by kernel_rfl) rfl rfl rfl (by kernel_rfl) St.drawn (fun _ h => h.at 0 rfl) ?_
              refine d_q rfl (q_move rfl rfl) rfl rfl ?_
              refine d_q rfl (q_move rfl rfl) rfl rfl ?_
              refine d_q rfl (q_fieldAddr rfl Try.underlying39 rfl Try.sizeOf4 rfl rfl) rfl rfl ?_
              refine d_q rfl (q_loadC rfl Try.isAgg4 rfl (fun _ h => h) rfl) rfl rfl ?_
              refine d_q rfl (q_move rfl rfl) rfl rfl ?_
              refine d_q rfl (q_move rfl rfl) rfl rfl ?_
              refine d_q rfl (q_fieldAddr rfl Try.underlying39 rfl Try.sizeOf4 rfl rfl) rfl rfl ?_
              refine d_q rfl (q_loadC rfl Try.isAgg4 rfl (fun _ h => h) rfl) rfl rfl ?_
              refine pull3 ?_
              refine pull3 ?_
              refine pull3 ?_
              refine d_e rfl ?_
              refine e_call_33 (try_spec hok (by omega) b vR vQ t s.wr) rfl rfl rfl Try.call18 rfl (fun _ _ => trivial) ?_
              intro x1 _
              refine d_held (fun _ h => h.at 3 rfl) ?_
              refine pull6 ?_
              refine pull6 ?_
              refine pull6 ?_
              refine d_e rfl ?_
              refine e_call_33 (rtry_spec hok (by omega) c vR2 vQ2 t s.wr) rfl rfl rfl Try.call23 rfl (fun _ _ => trivial) ?_
              intro x2 _
              refine d_held (fun _ h => h.at 6 rfl) ?_
              refine d_q rfl (q_eqb rfl Try.underlying4 rfl rfl) rfl rfl ?_
              refine d_q rfl (q_assign rfl rfl) rfl rfl ?_
              refine d_nil ?_
              refine k_block ?_
              refine pull6 ?_
              refine drop0 ?_
              refine pull2 ?_
              refine pull2 ?_
              refine pull2 ?_
              refine pull5 ?_
              refine pull5 ?_
              refine pull5 ?_
              refine Pre.setV (t := 8) (c := .bool true) rfl (congrArg Value.bool (by simp)) ?_
              exact k_meet ((tryL m t s.wr, x1, vQ, x2, vQ2)) ⟨try_ok hok t s.wr, fit_try hft htw s.wr⟩ (Sub.cons rfl (Sub.cons rfl (Sub.cons rfl (Sub.cons rfl (Sub.cons rfl (Sub.nil)))))) (fun _ h => h)
            · try simp only [decide_eq_true_eq, decide_eq_false_iff_not, Bool.not_eq_true', Bool.not_eq_false'] at h3
              refine c_false rfl ?_
              refine c_seq ?_
              refine c_region _ rfl ?_
              refine l_q rfl (q_fieldAddr rfl Try.underlying39 rfl Try.sizeOf3 rfl rfl) rfl rfl ?_
              refine l_q rfl (q_loadC rfl Try.isAgg3 rfl (fun _ h => h.at 0 rfl) rfl) rfl rfl ?_
              refine l_q rfl (q_leq rfl rfl rfl) rfl rfl ?_
              refine l_q rfl (q_assign rfl rfl) rfl rfl ?_
              refine l_nil ?_
              refine k_then ?_
              refine Pre.caseB 95 rfl (fun h3 => ?_) (fun h3 => ?_)
              · try simp only [decide_eq_true_eq, decide_eq_false_iff_not, Bool.not_eq_true', Bool.not_eq_false'] at h3
                have hdl := drop_len hok t
                refine c_true rfl ?_
                refine c_region _ rfl ?_
                refine l_q rfl (q_move rfl rfl) rfl rfl ?_
                refine l_q rfl (q_move rfl rfl) rfl rfl ?_
                refine pull3 ?_
                refine pull3 ?_
                refine pull3 ?_
                refine l_e rfl ?_
                refine e_call_34 (drop_spec hok (by omega) b vR vQ t) rfl rfl rfl Try.call13 rfl (fun _ _ => trivial) ?_
                intro x1 _
                refine l_q rfl (q_move rfl rfl) rfl rfl ?_
                refine l_q rfl (q_move rfl rfl) rfl rfl ?_
                refine pull7 ?_
                refine pull7 ?_
                refine pull7 ?_
                refine l_e rfl ?_
                refine e_call_34 (rdrop_spec hok (by omega) c vR2 vQ2 t) rfl rfl rfl Try.call25 rfl (fun _ _ => trivial) ?_
                intro x2 _
                refine l_e rfl ?_
                refine e_call_00 (sameints_spec (dropL m t).1 (dropL m t).1 (by omega)) rfl rfl rfl Try.call24 rfl (fun _ h => ⟨h.rd 4 rfl, h.rd 0 rfl⟩) ?_
                intro _ _
                refine l_q rfl (q_assign rfl rfl) rfl rfl ?_
                refine l_nil ?_
                refine k_block ?_
                refine drop0 ?_
                refine pull3 ?_
                refine drop0 ?_
                refine pull6 ?_
                refine drop0 ?_
                refine pull2 ?_
                refine pull2 ?_
                refine pull2 ?_
                refine pull5 ?_
                refine pull5 ?_
                refine pull5 ?_
                refine Pre.setV (t := 8) (c := .bool true) rfl (congrArg Value.bool (by simp)) ?_
                exact k_meet (((dropL m t).2, x1.2.1, x1.2.2, x2.2.1, x2.2.2)) ⟨(drop_ok hok t).mono (by omega), fit_drop hft hok t⟩ (Sub.cons rfl (Sub.cons rfl (Sub.cons rfl (Sub.cons rfl (Sub.cons rfl (Sub.nil)))))) (fun _ h => h)
              · try simp only [decide_eq_true_eq, decide_eq_false_iff_not, Bool.not_eq_true', Bool.not_eq_false'] at h3
                refine c_false rfl ?_
                refine c_seq ?_
                refine c_region _ rfl ?_
                refine l_q rfl (q_fieldAddr rfl Try.underlying39 rfl Try.sizeOf3 rfl rfl) rfl rfl ?_
                refine l_q rfl (q_loadC rfl Try.isAgg3 rfl (fun _ h => h.at 0 rfl) rfl) rfl rfl ?_
                refine l_q rfl (q_eql rfl rfl rfl) rfl rfl ?_
                refine l_q rfl (q_assign rfl rfl) rfl rfl ?_
                refine l_nil ?_
                refine k_then ?_
                refine Pre.caseB 106 rfl (fun h3 => ?_) (fun h3 => ?_)
                · try simp only [decide_eq_true_eq, decide_eq_false_iff_not, Bool.not_eq_true', Bool.not_eq_false'] at h3
                  have hdl := down_len hok t
                  refine c_true rfl ?_
                  refine c_region _ rfl ?_
                  refine l_q rfl (q_move rfl rfl) rfl rfl ?_
                  refine l_q rfl (q_move rfl rfl) rfl rfl ?_
                  refine pull3 ?_
                  refine pull3 ?_
                  refine pull3 ?_
                  refine l_e rfl ?_
                  refine e_call_34 (down_spec hok (by omega) b vR vQ t) rfl rfl rfl Try.call20 rfl (fun _ _ => trivial) ?_
                  intro x1 _
                  refine l_q rfl (q_move rfl rfl) rfl rfl ?_
                  refine l_q rfl (q_move rfl rfl) rfl rfl ?_
                  refine pull7 ?_
                  refine pull7 ?_
                  refine pull7 ?_
                  refine l_e rfl ?_
                  refine e_call_34 (rdown_spec hok (by omega) c vR2 vQ2 t) rfl rfl rfl Try.call26 rfl (fun _ _ => trivial) ?_
                  intro x2 _
                  refine l_e rfl ?_
                  refine e_call_00 (sameints_spec (downL m t).1 (downL m t).1 (by omega)) rfl rfl rfl Try.call24 rfl (fun _ h => ⟨h.rd 4 rfl, h.rd 0 rfl⟩) ?_
                  intro _ _
                  refine l_q rfl (q_assign rfl rfl) rfl rfl ?_
                  refine l_nil ?_
                  refine k_block ?_
                  refine drop0 ?_
                  refine pull3 ?_
                  refine drop0 ?_
                  refine pull6 ?_
                  refine drop0 ?_
                  refine pull2 ?_
                  refine pull2 ?_
                  refine pull2 ?_
                  refine pull5 ?_
                  refine pull5 ?_
                  refine pull5 ?_
                  refine Pre.setV (t := 8) (c := .bool true) rfl (congrArg Value.bool (by simp)) ?_
                  exact k_meet (((downL m t).2, x1.2.1, x1.2.2, x2.2.1, x2.2.2)) ⟨(down_ok hok t).mono (by omega), fit_down hft hok t⟩ (Sub.cons rfl (Sub.cons rfl (Sub.cons rfl (Sub.cons rfl (Sub.cons rfl (Sub.nil)))))) (fun _ h => h)
                · try simp only [decide_eq_true_eq, decide_eq_false_iff_not, Bool.not_eq_true', Bool.not_eq_false'] at h3
                  refine c_false rfl ?_
                  refine c_seq ?_
                  refine c_region _ rfl ?_
                  refine l_q rfl (q_fieldAddr rfl Try.underlying39 rfl Try.sizeOf3 rfl rfl) rfl rfl ?_
                  refine l_q rfl (q_loadC rfl Try.isAgg3 rfl (fun _ h => h.at 0 rfl) rfl) rfl rfl ?_
                  refine l_q rfl (q_eql rfl rfl rfl) rfl rfl ?_
                  refine l_q rfl (q_assign rfl rfl) rfl rfl ?_
                  refine l_nil ?_
                  refine k_then ?_
                  refine Pre.caseB 117 rfl (fun h3 => ?_) (fun h3 => ?_)
                  · try simp only [decide_eq_true_eq, decide_eq_false_iff_not, Bool.not_eq_true', Bool.not_eq_false'] at h3
                    refine c_true rfl ?_
                    refine c_region _ rfl ?_
                    refine l_q rfl (q_move rfl rfl) rfl rfl ?_
                    refine l_q rfl (q_nilCheck rfl rfl) rfl rfl ?_
                    refine l_q rfl (q_fieldAddr rfl Try.underlying49 rfl Try.sizeOf47 rfl rfl) rfl rfl ?_
                    refine pull3 ?_
                    refine pull3 ?_
                    refine pull3 ?_
                    refine l_e rfl ?_
                    refine e_call_33 (pin_spec hok (by omega) b vR vQ) rfl rfl rfl Try.call27 rfl (fun _ _ => trivial) ?_
                    intro _ _
                    refine l_q rfl (q_move rfl rfl) rfl rfl ?_
                    refine pull6 ?_
                    refine pull6 ?_
                    refine pull6 ?_
                    refine l_e rfl ?_
                    refine e_call_33 (rpin_spec hok (by omega) c vR2 vQ2) rfl rfl rfl Try.call28 rfl (fun _ _ => trivial) ?_
                    intro _ _
                    refine l_q rfl (q_eql rfl rfl rfl) rfl rfl ?_
                    refine l_q rfl (q_assign rfl rfl) rfl rfl ?_
                    refine l_nil ?_
                    refine k_block ?_
                    refine pull6 ?_
                    refine drop0 ?_
                    refine pull2 ?_
                    refine pull2 ?_
                    refine pull2 ?_
                    refine pull5 ?_
                    refine pull5 ?_
                    refine pull5 ?_
                    refine Pre.setV (t := 8) (c := .bool true) rfl (congrArg Value.bool (by simp)) ?_
                    exact k_meet (({ m with pins := m.pins + 1 }, vR, vQ, vR2, vQ2)) ⟨pin_ok hok, hft⟩ (Sub.cons rfl (Sub.cons rfl (Sub.cons rfl (Sub.cons rfl (Sub.cons rfl (Sub.nil)))))) (fun _ h => h)
                  · try simp only [decide_eq_true_eq, decide_eq_false_iff_not, Bool.not_eq_true', Bool.not_eq_false'] at h3
                    refine c_false rfl ?_
                    refine c_seq ?_
                    refine c_region _ rfl ?_
                    refine l_q rfl (q_move rfl rfl) rfl rfl ?_
                    refine l_q rfl (q_nilCheck rfl rfl) rfl rfl ?_
                    refine l_q rfl (q_fieldAddr rfl Try.underlying49 rfl Try.sizeOf47 rfl rfl) rfl rfl ?_
                    refine pull3 ?_
                    refine pull3 ?_
                    refine pull3 ?_
                    refine l_e rfl ?_
                    refine e_call_33 (unpin_spec hok (by omega) b vR vQ) rfl rfl rfl Try.call29 rfl (fun _ _ => trivial) ?_
                    intro _ _
                    refine l_q rfl (q_move rfl rfl) rfl rfl ?_
                    refine l_q rfl (q_extract rfl rfl rfl) rfl rfl ?_
                    refine l_q rfl (q_extract rfl rfl rfl) rfl rfl ?_
                    refine l_q rfl (q_assign rfl rfl) rfl rfl ?_
                    refine l_q rfl (q_assign rfl rfl) rfl rfl ?_
                    refine l_nil ?_
                    refine k_then ?_
                    refine c_seq ?_
                    refine c_region _ rfl ?_
                    refine l_q rfl (q_move rfl rfl) rfl rfl ?_
                    refine pull6 ?_
                    refine pull6 ?_
                    refine pull6 ?_
                    refine l_e rfl ?_
                    refine e_call_33 (runpin_spec hok (by omega) c vR2 vQ2) rfl rfl rfl Try.call30 rfl (fun _ _ => trivial) ?_
                    intro _ _
                    refine l_q rfl (q_move rfl rfl) rfl rfl ?_
                    refine l_q rfl (q_extract rfl rfl rfl) rfl rfl ?_
                    refine l_q rfl (q_extract rfl rfl rfl) rfl rfl ?_
                    refine l_q rfl (q_assign rfl rfl) rfl rfl ?_
                    refine l_q rfl (q_assign rfl rfl) rfl rfl ?_
                    refine l_nil ?_
                    refine k_then ?_
                    refine c_region _ rfl ?_
                    refine l_q rfl (q_move rfl rfl) rfl rfl ?_
                    refine l_q rfl (q_move rfl rfl) rfl rfl ?_
                    refine l_q rfl (q_eql rfl rfl rfl) rfl rfl ?_
                    refine l_q rfl (q_move rfl rfl) rfl rfl ?_
                    refine Pre.setB (t := 60) (c := true) rfl (by simp) ?_
                    refine l_q rfl (q_move rfl rfl) rfl rfl ?_
                    refine l_q rfl (q_move rfl rfl) rfl rfl ?_
                    refine l_q rfl (q_eqb rfl Try.underlying4 rfl rfl) rfl rfl ?_
                    refine l_q rfl (q_pick_t rfl rfl rfl) rfl rfl ?_
                    refine l_q rfl (q_assign rfl rfl) rfl rfl ?_
                    refine l_nil ?_
                    refine k_block ?_
                    refine pull6 ?_
                    refine drop0 ?_
                    refine pull2 ?_
                    refine pull2 ?_
                    refine pull2 ?_
                    refine pull5 ?_
                    refine pull5 ?_
                    refine pull5 ?_
                    refine Pre.setV (t := 8) (c := .bool true) rfl (congrArg Value.bool (by simp)) ?_
                    exact k_meet ((unpinL m, vR, vQ, vR2, vQ2)) ⟨(unpin_ok hok).mono (by omega), by unfold unpinL; split; exact hft; exact hft⟩ (Sub.cons rfl (Sub.cons rfl (Sub.cons rfl (Sub.cons rfl (Sub.cons rfl (Sub.nil)))))) (fun _ h => h)
        · rintro m2 vR3 vQ3 vR4 vQ4 ⟨hok2, hft2⟩
          refine c_seq ?_
          have hlen := hok2.lens
          refine c_draw [(0, some true), (1, some true), (2, some true), (3, some true), (5, some true), (6, some true), (7, some true), (8, some true), (4, some false), (9, some false), (10, some true), (11, some true), (12, some true), (13, some true), (15, some true), (16, some true), (17, some true), (18, some true), (14, some false), (19, some true), (20, some true), (21, some true), (22, some true), (24, some true), (25, some true), (26, some true), (27, some true), (23, some false), (28, some false), (29, some true), (30, some true), (31, some true), (32, some true), (34, some true), (33, some false), (35, some false), (36, some true), (37, some true)] [] [(_, some true), (_, some true), (_, some true), (_, some true), (_, some true), (_, some true), (_, some true), (_, some true), (_, some false), (_, some false), (_, some true), (_, some true), (_, some true), (_, some true), (_, some true), (_, some true), (_, some true), (_, some true), (_, some false), (_, some true), (_, some true), (_, some true), (_, some true), (_, some true), (_, some true), (_, some true), (_, some true), (_, some false), (_, some false), (_, some true), (_, some true), (_, some true), (_, some true), (_, some true), (_, some false), (_, some false), (_, some true), (_, some true)] (fun w2 => (cellsE c 53 [vR4, .int .i64 m2.wr, vQ4, .int .i64 m2.pins]).at w2) (blind_then (blind_block (blind_then (blind_then (blind_block (blind_then blind_body)))))) rfl (by kernel_rfl) (by kernel_rfl) rfl rfl rfl (by kernel_rfl) St.drawn (fun _ h => h.at 3 rfl) ?_
          refine d_q rfl (q_move rfl rfl) rfl rfl ?_
          refine d_q rfl (q_not rfl rfl) rfl rfl ?_
          refine d_q rfl (q_move rfl rfl) rfl rfl ?_
          refine d_q rfl (q_move rfl rfl) rfl rfl ?_
          refine d_q rfl (q_move rfl rfl) rfl rfl ?_
          refine d_q rfl (q_nilCheck rfl rfl) rfl rfl ?_
          refine d_q rfl (q_fieldAddr rfl Try.underlying53 rfl Try.sizeOf27 rfl rfl) rfl rfl ?_
          refine d_q rfl (q_loadC rfl Try.isAgg27 rfl (fun _ h => h) rfl) rfl rfl ?_
          refine pull2 ?_
          refine pull2 ?_
          refine pull2 ?_
          refine d_e rfl ?_
          refine e_call_34 (readers_spec hok2 (by omega) b vR3 vQ3) rfl rfl rfl Try.call16 rfl (fun _ _ => trivial) ?_
          intro q4 _
          refine d_held (fun _ h => h.at 4 rfl) ?_
          refine d_e rfl ?_
          refine e_call_00 (sameints_spec m2.rd m2.rd (by omega)) rfl rfl rfl Try.call24 rfl (fun _ h => ⟨h.rd 0 rfl, h.rd 5 rfl⟩) ?_
          intro _ _
          refine d_held (fun _ h => h.at 4 rfl) ?_
          refine d_q rfl (q_not rfl rfl) rfl rfl ?_
          refine d_q rfl (q_pick_f rfl rfl rfl) rfl rfl ?_
          refine d_q rfl (q_move rfl rfl) rfl rfl ?_
          refine Pre.setB (t := 140) (c := false) rfl (by simp) ?_
          refine d_q rfl (q_move rfl rfl) rfl rfl ?_
          refine d_q rfl (q_move rfl rfl) rfl rfl ?_
          refine d_q rfl (q_nilCheck rfl rfl) rfl rfl ?_
          refine d_q rfl (q_fieldAddr rfl Try.underlying53 rfl Try.sizeOf3 rfl rfl) rfl rfl ?_
          refine d_q rfl (q_loadC rfl Try.isAgg3 rfl (fun _ h => h) rfl) rfl rfl ?_
          refine pull3 ?_
          refine pull3 ?_
          refine pull3 ?_
          refine d_e rfl ?_
          refine e_call_33 (writer_spec hok2 (by omega) b vR3 vQ3 ) rfl rfl rfl Try.call15 rfl (fun _ _ => trivial) ?_
          intro _ _
          refine d_held (fun _ h => h.at 4 rfl) ?_
          refine d_q rfl (q_neq rfl rfl rfl) rfl rfl ?_
          refine d_q rfl (q_pick_f rfl rfl rfl) rfl rfl ?_
          refine d_q rfl (q_move rfl rfl) rfl rfl ?_
          refine Pre.setB (t := 149) (c := false) rfl (by simp) ?_
          refine d_q rfl (q_move rfl rfl) rfl rfl ?_
          refine d_q rfl (q_move rfl rfl) rfl rfl ?_
          refine d_q rfl (q_nilCheck rfl rfl) rfl rfl ?_
          refine d_q rfl (q_fieldAddr rfl Try.underlying53 rfl Try.sizeOf33 rfl rfl) rfl rfl ?_
          refine d_q rfl (q_loadC rfl Try.isAgg33 rfl (fun _ h => h) rfl) rfl rfl ?_
          refine pull2 ?_
          refine pull2 ?_
          refine pull2 ?_
          refine d_e rfl ?_
          refine e_call_34 (queue_spec hok2 (by omega) b vR3 vQ3) rfl rfl rfl Try.call17 rfl (fun _ _ => trivial) ?_
          intro q5 _
          refine d_held (fun _ h => h.at 5 rfl) ?_
          refine d_e rfl ?_
          refine e_call_00 (samewants_spec m2.q m2.q hft2.q hft2.q (by omega)) rfl rfl rfl Try.call31 rfl (fun _ h => ⟨h.rd 0 rfl, h.rd 7 rfl⟩) ?_
          intro _ _
          refine d_held (fun _ h => h.at 5 rfl) ?_
          refine d_q rfl (q_not rfl rfl) rfl rfl ?_
          refine d_q rfl (q_pick_f rfl rfl rfl) rfl rfl ?_
          refine d_q rfl (q_move rfl rfl) rfl rfl ?_
          refine Pre.setB (t := 159) (c := false) rfl (by simp) ?_
          refine d_q rfl (q_move rfl rfl) rfl rfl ?_
          refine d_q rfl (q_move rfl rfl) rfl rfl ?_
          refine pull3 ?_
          refine pull3 ?_
          refine pull3 ?_
          refine d_e rfl ?_
          refine e_call_33 (idle_spec hok2 (by omega) b vR3 vQ3 ) rfl rfl rfl Try.call14 rfl (fun _ _ => trivial) ?_
          intro _ _
          refine d_held (fun _ h => h.at 5 rfl) ?_
          refine pull7 ?_
          refine pull7 ?_
          refine pull7 ?_
          refine d_e rfl ?_
          refine e_call_33 (ridle_spec hok2 (by omega) c vR4 vQ4) rfl rfl rfl Try.call32 rfl (fun _ _ => trivial) ?_
          intro _ _
          refine d_held (fun _ h => h.at 0 rfl) ?_
          refine d_q rfl (q_neb rfl Try.underlying4 rfl rfl) rfl rfl ?_
          refine d_q rfl (q_pick_f rfl rfl rfl) rfl rfl ?_
          refine d_nil ?_
          refine k_then ?_
          refine Pre.setB (t := 165) (c := false) rfl (by simp) ?_
          refine c_false rfl ?_
          refine c_skip ?_
          refine k_block ?_
          refine k_then ?_
          refine c_region _ rfl ?_
          refine l_q rfl (q_move rfl rfl) rfl rfl ?_
          refine l_q rfl (q_inc rfl rfl rfl (by omega)) rfl rfl ?_
          refine l_q rfl (q_assign rfl rfl) rfl rfl ?_
          refine l_nil ?_
          refine pull6 ?_
          refine drop0 ?_
          refine pull6 ?_
          refine drop0 ?_
          refine pull2 ?_
          refine pull2 ?_
          refine pull2 ?_
          refine pull5 ?_
          refine pull5 ?_
          refine pull5 ?_
          exact k_round ((i + 1, m2, vR3, vQ3, vR4, vQ4)) (by dsimp only; omega) ⟨by dsimp only; omega, hok2, hft2⟩ (Sub.cons rfl (Sub.cons rfl (Sub.cons rfl (Sub.cons rfl (Sub.nil))))) (fun _ h => h)
    · try simp only [decide_eq_true_eq, decide_eq_false_iff_not, Bool.not_eq_true', Bool.not_eq_false'] at h1
      refine c_false rfl ?_
      refine c_exit ?_
      refine k_then_exit ?_
      refine k_then_exit ?_
      refine k_block_exit ?_
      refine k_then ?_
      refine c_seq ?_
      refine c_region _ rfl ?_
      refine l_e rfl ?_
      refine e_call_00 (awake_spec) rfl rfl rfl Try.call11 rfl (fun _ _ => trivial) ?_
      intro _ _
      refine l_q rfl (q_assign rfl rfl) rfl rfl ?_
      refine l_nil ?_
      refine k_then ?_
      refine c_ret ?_
      refine r_one rfl rfl ?_
      exact fun _ h => ⟨(), rfl, trivial, h.nothing⟩
theorem latchPlays_walk (w : World) (A0 : Option Addr) (n0 c0 : Nat) (x0 : List Value) (e0 : x0.length = n0 * kinds_0.length) (rd0 : Rd w w.heap.size A0 x0) (l0 : n0 ≤ c0) (m0 : c0 ≤ maxLen) (kk0 : ∀ i, i < n0 → Kinds kinds_0 ((x0.drop (i * kinds_0.length)).take kinds_0.length)) :
    Calls Try.prog 9 #[.slice A0 n0 c0] w fun e w' => e = .returned (.bool true) ∧ Below w.heap.size w w' := by
  obtain ⟨l, rfl, rfl, hW⟩ := flat_of encSt (ks := kinds_0) rfl stp_one n0 x0 e0 kk0
  exact con_walk (plays_law l hW) (rdv_of rd0 l0)
end Go.Proofs.Ytlakembncfkimaa
