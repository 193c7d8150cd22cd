/- ClockGoes, walked -/
import Derived.Test.YthjnfbpimcdndaaP
import Derived.Test.YthjnfbpimcdndaaS9
set_option linter.unusedVariables false
set_option linter.unusedSimpArgs false
namespace Go.Proofs.Ythjnfbpimcdndaa
open Go.Sep Go.RowKit

/-- What the law asks of a sweep. -/
structure Gs (cs rs : List Bool) (h : Nat) (r : Option Nat × List Bool) : Prop where
  len : r.2.length = cs.length
  lt : ∀ p, r.1 = some p → p < cs.length
  gain : ∀ j, j < cs.length → r.2.getD j false = true → rs.getD j false = true
  lose : ∀ j, j < cs.length → cs.getD j false = false → r.2.getD j false = rs.getD j false
  no : (∀ j, j < cs.length → cs.getD j false = false) → r = (none, rs)
  yes : ∀ i, i < cs.length → cs.getD i false = true → ∃ p, r.1 = some p ∧ cs.getD p false = true ∧ (rs.getD p false = false ∨ ∀ j, j < cs.length → cs.getD j false = true → rs.getD j false = true) ∧ r.2.getD p false = false
theorem gs_of {cs rs : List Bool} {h : Nat} (hn : 0 < cs.length) (hl : rs.length = cs.length) {r : Option Nat × List Bool} (s : Sw cs rs cs.length h r) : Gs cs rs h r := by
  have hlen := sw_len s
  have hm : ∀ j, j < cs.length → j ∈ ring cs.length h := fun j hj => (ring_mem hn).2 hj
  have cg : ∀ (ks : List Nat) (j : Nat), (clr cs ks rs).getD j false = true → rs.getD j false = true := fun ks j hj => by
    rw [clr_get] at hj; split at hj
    · cases hj
    · exact hj
  have cl : ∀ (ks : List Nat) (j : Nat), cs.getD j false = false → (clr cs ks rs).getD j false = rs.getD j false := fun ks j hj => by
    rw [clr_get, if_neg (fun x => by rw [hj] at x; cases x.2)]
  cases s with
  | bare e h1 hc hb =>
    rename_i pre p post
    have hp : p < cs.length := (ring_mem hn).1 (by rw [e]; simp)
    have hnd := ring_nodup (n := cs.length) (h := h)
    rw [e] at hnd
    have hpn : p ∉ pre := fun hm => (List.nodup_append.1 hnd).2.2 p hm p (List.mem_cons_self ..) rfl
    refine ⟨by rw [hlen, hl], fun q hq => by cases hq; exact hp, fun j _ => cg pre j, fun j _ => cl pre j, fun ha => ?_, fun i _ _ => ⟨p, rfl, hc, .inl hb, ?_⟩⟩
    · have := ha p hp; rw [hc] at this; cases this
    · show (clr cs pre rs).getD p false = false
      rw [clr_get, if_neg (fun x => hpn x.1)]; exact hb
  | all e h0 h1 hc =>
    rename_i pre p post
    have hp : p < cs.length := (ring_mem hn).1 (by rw [e]; simp)
    refine ⟨by rw [hlen, hl], fun q hq => by cases hq; exact hp, fun j _ => cg _ j, fun j _ => cl _ j, fun ha => ?_, fun i _ _ => ⟨p, rfl, hc, .inr (fun j hj => h0 j (hm j hj)), ?_⟩⟩
    · have := ha p hp; rw [hc] at this; cases this
    · show (clr cs _ rs).getD p false = false
      rw [clr_get, if_pos ⟨hm p hp, hc⟩]
  | no h0 =>
    refine ⟨hl, fun q hq => (by cases hq), fun j _ hj => hj, fun j _ _ => rfl, fun _ => rfl, fun i hi hc => ?_⟩
    have := h0 i (hm i hi); rw [hc] at this; cases this
theorem any_succ {q : Nat → Bool} {i : Nat} {a : Bool} (h : a = true ↔ ∃ j, j < i ∧ q j = true) : (a || q i) = true ↔ ∃ j, j < i + 1 ∧ q j = true := by
  rw [Bool.or_eq_true, h]
  constructor
  · rintro (⟨j, hj, hq⟩ | hq)
    · exact ⟨j, by omega, hq⟩
    · exact ⟨i, by omega, hq⟩
  · rintro ⟨j, hj, hq⟩
    rcases Nat.lt_succ_iff_lt_or_eq.1 hj with h1 | rfl
    · exact .inl ⟨j, h1, hq⟩
    · exact .inr hq
theorem rest_mod {a n : Int} (hn : 0 < n) : (a.tmod n + n) % n = a % n := by
  rw [Int.add_emod_right]
  by_cases h : 0 ≤ a
  · rw [Int.tmod_eq_emod_of_nonneg h, Int.emod_emod_of_dvd _ (Int.dvd_refl _)]
  · have h3 := Int.mul_tdiv_add_tmod a n
    rw [show a.tmod n = a + n * (-(a.tdiv n)) from by rw [Int.mul_neg]; omega, Int.add_mul_emod_self_left]
set_option maxRecDepth 100000 in
set_option maxHeartbeats 1000000 in
theorem goes_spec {va vb : Value} (cs rs0 : List Bool) (hand : Int) (hw : (Lit.int .i64 hand).wf = true) : Con Try.prog 4 [va, vb, .int .i64 hand] (fun w => RdV w va encB cs ∧ RdV w vb encB rs0) [] (fun _ : Unit => .bool true) (fun _ => True) (fun _ => []) := by
  intro w hE hH
  obtain ⟨ha, hb⟩ := hE
  refine enter (n := 163) (vs := [va, vb, .int .i64 hand]) (St w [] []) Try.func4 rfl rfl rfl (St.init hH) ?_
  refine c_seq ?_
  refine c_region _ rfl ?_
  refine l_q rfl (q_assign rfl rfl) rfl rfl ?_
  refine l_nil ?_
  refine k_then ?_
  refine c_seq ?_
  refine c_region _ rfl ?_
  refine l_q rfl (q_move rfl rfl) rfl rfl ?_
  refine l_q rfl (q_lenV rfl Try.underlying22 rfl (fun _ h => ha.keep h (by simp [dom]))) rfl rfl ?_
  refine l_q rfl (q_assign rfl rfl) rfl rfl ?_
  refine l_nil ?_
  refine k_then ?_
  refine c_seq ?_
  refine c_seq ?_
  refine c_region _ rfl ?_
  refine l_q rfl (q_move rfl rfl) rfl rfl ?_
  refine l_q rfl (q_eql rfl rfl rfl) rfl rfl ?_
  refine l_q rfl (q_move rfl rfl) rfl rfl ?_
  refine Pre.caseB 19 rfl (fun h1 => ?_) (fun h1 => ?_)
  · simp only [decide_eq_true_eq, decide_eq_false_iff_not, Bool.not_eq_true', Bool.not_eq_false'] at h1
    refine l_not rfl rfl rfl ?_
    refine l_not rfl rfl rfl ?_
    refine l_q rfl (q_pick_t rfl rfl rfl) rfl rfl ?_
    refine l_nil ?_
    refine k_then ?_
    refine c_true rfl ?_
    refine c_seq ?_
    refine c_region _ rfl ?_
    refine l_e rfl ?_
    refine e_call_00 (awake_spec) rfl rfl rfl Try.call8 rfl (fun _ _ => trivial) ?_
    intro _ _
    refine l_q rfl (q_assign rfl rfl) rfl rfl ?_
    refine l_nil ?_
    refine k_then ?_
    refine c_ret ?_
    refine k_then_ret ?_
    refine r_one rfl rfl ?_
    exact fun _ h => ⟨(), rfl, trivial, h.nothing⟩
  · simp only [decide_eq_true_eq, decide_eq_false_iff_not, Bool.not_eq_true', Bool.not_eq_false'] at h1
    refine l_q rfl (q_move rfl rfl) rfl rfl ?_
    refine l_q rfl (q_gtr rfl rfl rfl) rfl rfl ?_
    refine l_q rfl (q_pick_f rfl rfl rfl) rfl rfl ?_
    refine l_nil ?_
    refine k_then ?_
    refine Pre.caseB 22 rfl (fun h2 => ?_) (fun h2 => ?_)
    · simp only [decide_eq_true_eq, decide_eq_false_iff_not, Bool.not_eq_true', Bool.not_eq_false'] at h2
      refine c_true rfl ?_
      refine c_seq ?_
      refine c_region _ rfl ?_
      refine l_e rfl ?_
      refine e_call_00 (awake_spec) rfl rfl rfl Try.call8 rfl (fun _ _ => trivial) ?_
      intro _ _
      refine l_q rfl (q_assign rfl rfl) rfl rfl ?_
      refine l_nil ?_
      refine k_then ?_
      refine c_ret ?_
      refine k_then_ret ?_
      refine r_one rfl rfl ?_
      exact fun _ h => ⟨(), rfl, trivial, h.nothing⟩
    · simp only [decide_eq_true_eq, decide_eq_false_iff_not, Bool.not_eq_true', Bool.not_eq_false'] at h2
      have hp : 0 < cs.length := by omega
      refine c_false rfl ?_
      refine c_skip ?_
      refine k_then ?_
      refine c_seq ?_
      refine c_region _ rfl ?_
      refine l_q rfl (q_move rfl rfl) rfl rfl ?_
      refine l_q rfl (q_move rfl rfl) rfl rfl ?_
      refine l_e rfl ?_
      refine e_call_01 (pad_spec rs0 cs.length (by omega)) rfl rfl rfl Try.call15 rfl (fun _ h => hb.keep h (by simp)) ?_
      intro v1 _
      refine l_q rfl (q_assign rfl rfl) rfl rfl ?_
      refine l_nil ?_
      refine k_then ?_
      refine c_seq ?_
      refine c_region _ rfl ?_
      refine l_q rfl (q_move rfl rfl) rfl rfl ?_
      refine l_q rfl (q_move rfl rfl) rfl rfl ?_
      refine l_q rfl (q_move rfl rfl) rfl rfl ?_
      have hrl := pad_len rs0 cs.length
      generalize padL rs0 cs.length = rs at *
      have gs := gs_of hp hrl (sw_sw (hand := hand) hp hrl)
      have hml := gs.len
      have hnb : ¬ (cs = [] ∨ rs.length ≠ cs.length) := by rintro (e | e); subst e; simp at hp; exact e hrl
      refine l_e rfl ?_
      refine e_call_01 (sweep_spec cs rs hand hw (by omega)) rfl rfl rfl Try.call9 rfl (fun _ h => ⟨ha.keep h (by simp), h.rd 0 rfl⟩) ?_
      intro v2 _
      refine l_q rfl (q_move rfl rfl) rfl rfl ?_
      refine l_q rfl (q_extract rfl rfl rfl) rfl rfl ?_
      refine l_q rfl (q_extract rfl rfl rfl) rfl rfl ?_
      refine l_q rfl (q_extract rfl rfl rfl) rfl rfl ?_
      refine l_q rfl (q_assign rfl rfl) rfl rfl ?_
      refine l_q rfl (q_assign rfl rfl) rfl rfl ?_
      refine l_q rfl (q_assign rfl rfl) rfl rfl ?_
      refine l_nil ?_
      refine k_then ?_
      refine c_seq ?_
      refine c_seq ?_
      refine c_region _ rfl ?_
      refine l_q rfl (q_move rfl rfl) rfl rfl ?_
      refine l_q rfl (q_lenV rfl Try.underlying22 rfl (fun _ h => h.rd 0 rfl)) rfl rfl ?_
      refine l_q rfl (q_move rfl rfl) rfl rfl ?_
      refine l_q rfl (q_neq rfl rfl rfl) rfl rfl ?_
      refine l_q rfl (q_move rfl rfl) rfl rfl ?_
      have hP : -1 ≤ swP cs rs hand ∧ swP cs rs hand < cs.length := by
        unfold swP
        cases hq : (swM cs rs hand).1 with
        | none => simp only; omega
        | some p => have := gs.lt p hq; simp only; omega
      refine Pre.setB (t := 39) (c := false) rfl (by rw [hml]; simp) ?_
      refine l_q rfl (q_move rfl rfl) rfl rfl ?_
      refine l_q rfl (q_lss rfl rfl rfl) rfl rfl ?_
      refine l_q rfl (q_pick_f rfl rfl rfl) rfl rfl ?_
      refine l_q rfl (q_move rfl rfl) rfl rfl ?_
      refine Pre.setB (t := 43) (c := false) rfl (decide_eq_false (by omega)) ?_
      refine l_q rfl (q_move rfl rfl) rfl rfl ?_
      refine l_q rfl (q_move rfl rfl) rfl rfl ?_
      refine l_q rfl (q_geq rfl rfl rfl) rfl rfl ?_
      refine l_q rfl (q_pick_f rfl rfl rfl) rfl rfl ?_
      refine l_nil ?_
      refine k_then ?_
      refine Pre.setB (t := 47) (c := false) rfl (decide_eq_false (by omega)) ?_
      refine c_false rfl ?_
      refine c_skip ?_
      refine k_then ?_
      refine c_seq ?_
      refine c_region _ rfl ?_
      refine l_q rfl (q_assign rfl rfl) rfl rfl ?_
      refine l_q rfl (q_assign rfl rfl) rfl rfl ?_
      refine l_nil ?_
      refine k_then ?_
      refine c_seq ?_
      refine c_seq ?_
      refine c_region _ rfl ?_
      refine l_q rfl (q_assign rfl rfl) rfl rfl ?_
      refine l_nil ?_
      refine k_then ?_
      refine c_block ?_
      refine pull1 ?_
      refine c_loop3 (fun (i : Nat) (ya : Bool) (yb : Bool) => [(0, va), (2, .int .i64 hand), (7, .int .i64 (cs.length : Int)), (8, v1), (9, .int .i64 (swP cs rs hand)), (10, .int .i64 (swN cs rs hand)), (11, v2), (12, .bool ya), (13, .bool yb), (14, .int .i64 (i : Int))]) (fun (i : Nat) (ya : Bool) (yb : Bool) => St w [] [rowE v1 4 encB rs, rowE v2 4 encB (swM cs rs hand).2]) (fun (i : Nat) (ya : Bool) (yb : Bool) => i ≤ cs.length ∧ (ya = true ↔ ∃ j, j < i ∧ cs.getD j false = true) ∧ (yb = true ↔ ∃ j, j < i ∧ (cs.getD j false && !rs.getD j false) = true)) (fun (i : Nat) (ya : Bool) (yb : Bool) => cs.length - i) (0) (false) (false) ⟨Nat.zero_le _, by simp, by simp⟩ (Sub.cons rfl (Sub.cons rfl (Sub.cons rfl (Sub.cons rfl (Sub.cons rfl (Sub.cons rfl (Sub.cons rfl (Sub.cons rfl (Sub.cons rfl (Sub.cons rfl (Sub.nil))))))))))) (fun _ h => h) ?_
      intro i ya yb hq
      refine c_seq ?_
      refine c_seq ?_
      obtain ⟨hi, hya, hyb⟩ := hq
      refine c_region _ rfl ?_
      refine l_q rfl (q_move rfl rfl) rfl rfl ?_
      refine l_q rfl (q_move rfl rfl) rfl rfl ?_
      refine l_q rfl (q_lss rfl rfl rfl) rfl rfl ?_
      refine l_nil ?_
      refine k_then ?_
      refine Pre.caseB 50 rfl (fun hil => ?_) (fun hil => ?_)
      · simp only [decide_eq_true_eq, decide_eq_false_iff_not, Bool.not_eq_true', Bool.not_eq_false'] at hil
        have hil2 : i < cs.length := by omega
        have g1 := gs.gain i hil2
        have g2 := gs.lose i hil2
        have sa := any_succ hya
        have sb := any_succ hyb
        refine c_true rfl ?_
        refine c_skip ?_
        refine k_then ?_
        refine c_seq ?_
        refine c_block ?_
        refine c_seq ?_
        refine c_region _ rfl ?_
        refine l_q rfl (q_move rfl rfl) rfl rfl ?_
        refine l_q rfl (q_move rfl rfl) rfl rfl ?_
        refine Pre.caseB 54 rfl (fun f1 => ?_) (fun f1 => ?_)
        · refine l_not rfl rfl rfl ?_
          refine l_not rfl rfl rfl ?_
          refine l_not rfl rfl rfl ?_
          refine l_not rfl rfl rfl ?_
          refine l_q rfl (q_pick_t rfl rfl rfl) rfl rfl ?_
          refine l_q rfl (q_assign rfl rfl) rfl rfl ?_
          refine l_nil ?_
          refine k_then ?_
          refine c_seq ?_
          refine c_region _ rfl ?_
          refine l_q rfl (q_move rfl rfl) rfl rfl ?_
          refine l_q rfl (q_move rfl rfl) rfl rfl ?_
          refine Pre.caseB 61 rfl (fun f2 => ?_) (fun f2 => ?_)
          · refine l_not rfl rfl rfl ?_
            refine l_not rfl rfl rfl ?_
            refine l_not rfl rfl rfl ?_
            refine l_not rfl rfl rfl ?_
            refine l_not rfl rfl rfl ?_
            refine l_not rfl rfl rfl ?_
            refine l_not rfl rfl rfl ?_
            refine l_not rfl rfl rfl ?_
            refine l_not rfl rfl rfl ?_
            refine l_not rfl rfl rfl ?_
            refine l_not rfl rfl rfl ?_
            refine l_q rfl (q_pick_t rfl rfl rfl) rfl rfl ?_
            refine l_q rfl (q_assign rfl rfl) rfl rfl ?_
            refine l_nil ?_
            refine k_then ?_
            refine c_seq ?_
            refine c_draw [(0, some true), (1, some true), (2, some true), (3, some true), (4, some true), (5, some true), (6, some true), (7, some true), (8, some true), (9, some true), (10, some true), (11, some true), (12, some true), (13, some true), (14, some true), (15, some true), (16, some true), (17, some true), (18, some true), (19, some true), (20, some true), (21, some true), (22, some true), (23, some true), (24, some true), (25, some true), (26, some true), (27, some true), (28, some true)] [] [(_, some true), (_, some true), (_, some true), (_, some true), (_, some true), (_, some true), (_, some true), (_, some true), (_, some true), (_, some true), (_, some true), (_, some true), (_, some true), (_, some true), (_, some true), (_, some true), (_, some true), (_, some true), (_, some true), (_, some true), (_, some true), (_, some true), (_, some true), (_, some true), (_, some true), (_, some true), (_, some true), (_, some true), (_, some true)] _ (blind_then (blind_block (blind_then (blind_then (blind_block (blind_then blind_body)))))) rfl (by kernel_rfl) (by kernel_rfl) rfl rfl rfl (by kernel_rfl) St.drawn (fun _ h => h) ?_
            refine d_q rfl (q_move rfl rfl) rfl rfl ?_
            refine d_q rfl (q_move rfl rfl) rfl rfl ?_
            refine d_q rfl (q_indexV i rfl Try.underlying22 Try.sizeOf4 rfl (fun _ h => h.rd 1 rfl) rfl rfl (by omega)) rfl rfl ?_
            refine d_q rfl (q_loadV i 0 rfl Try.isAgg4 rfl rfl (fun _ h => h.rd 1 rfl) (gb (by omega)) rfl) rfl rfl ?_
            refine d_q rfl (q_move rfl rfl) rfl rfl ?_
            refine Pre.caseB 78 rfl (fun f4 => ?_) (fun f4 => ?_)
            · refine d_q rfl (q_move rfl rfl) rfl rfl ?_
              refine d_q rfl (q_move rfl rfl) rfl rfl ?_
              refine d_q rfl (q_indexV i rfl Try.underlying22 Try.sizeOf4 rfl (fun _ h => h.rd 0 rfl) rfl rfl (by omega)) rfl rfl ?_
              refine d_q rfl (q_loadV i 0 rfl Try.isAgg4 rfl rfl (fun _ h => h.rd 0 rfl) (gb (by omega)) rfl) rfl rfl ?_
              refine d_q rfl (q_not rfl rfl) rfl rfl ?_
              refine d_q rfl (q_pick_t rfl rfl rfl) rfl rfl ?_
              refine d_q rfl (q_move rfl rfl) rfl rfl ?_
              refine Pre.caseB 85 rfl (fun f5 => ?_) (fun f5 => ?_)
              · simp only [Bool.not_eq_true', Bool.not_eq_false'] at f5
                refine d_not rfl rfl rfl ?_
                refine d_not rfl rfl rfl ?_
                refine d_not rfl rfl rfl ?_
                refine d_not rfl rfl rfl ?_
                refine d_not rfl rfl rfl ?_
                refine d_not rfl rfl rfl ?_
                refine d_not rfl rfl rfl ?_
                refine d_not rfl rfl rfl ?_
                refine d_not rfl rfl rfl ?_
                refine d_not rfl rfl rfl ?_
                refine d_not rfl rfl rfl ?_
                refine d_not rfl rfl rfl ?_
                refine d_not rfl rfl rfl ?_
                refine d_not rfl rfl rfl ?_
                refine d_not rfl rfl rfl ?_
                refine d_not rfl rfl rfl ?_
                refine d_q rfl (q_pick_t rfl rfl rfl) rfl rfl ?_
                refine d_nil ?_
                refine k_then ?_
                refine c_true rfl ?_
                refine c_seq ?_
                refine c_region _ rfl ?_
                refine l_q rfl (q_assign rfl rfl) rfl rfl ?_
                refine l_nil ?_
                refine k_then ?_
                refine c_ret ?_
                refine k_block_ret ?_
                refine k_then_ret ?_
                refine k_then_ret ?_
                refine k_block_ret ?_
                refine k_then_ret ?_
                exfalso
                simp_all [-List.getD_eq_getElem?_getD]
              · simp only [Bool.not_eq_true', Bool.not_eq_false'] at f5
                refine d_q rfl (q_move rfl rfl) rfl rfl ?_
                refine d_q rfl (q_move rfl rfl) rfl rfl ?_
                refine d_q rfl (q_indexV i rfl Try.underlying22 Try.sizeOf4 rfl (fun _ h => ha.keep h (by simp [dom])) rfl rfl (by omega)) rfl rfl ?_
                refine d_q rfl (q_loadV i 0 rfl Try.isAgg4 rfl rfl (fun _ h => ha.keep h (by simp [dom])) (gb (by omega)) rfl) rfl rfl ?_
                refine d_q rfl (q_not rfl rfl) rfl rfl ?_
                refine d_q rfl (q_move rfl rfl) rfl rfl ?_
                refine Pre.caseB 91 rfl (fun f6 => ?_) (fun f6 => ?_)
                · simp only [Bool.not_eq_true', Bool.not_eq_false'] at f6
                  refine d_q rfl (q_move rfl rfl) rfl rfl ?_
                  refine d_q rfl (q_move rfl rfl) rfl rfl ?_
                  refine d_q rfl (q_indexV i rfl Try.underlying22 Try.sizeOf4 rfl (fun _ h => h.rd 1 rfl) rfl rfl (by omega)) rfl rfl ?_
                  refine d_q rfl (q_loadV i 0 rfl Try.isAgg4 rfl rfl (fun _ h => h.rd 1 rfl) (gb (by omega)) rfl) rfl rfl ?_
                  refine d_q rfl (q_move rfl rfl) rfl rfl ?_
                  refine d_q rfl (q_move rfl rfl) rfl rfl ?_
                  refine d_q rfl (q_indexV i rfl Try.underlying22 Try.sizeOf4 rfl (fun _ h => h.rd 0 rfl) rfl rfl (by omega)) rfl rfl ?_
                  refine d_q rfl (q_loadV i 0 rfl Try.isAgg4 rfl rfl (fun _ h => h.rd 0 rfl) (gb (by omega)) rfl) rfl rfl ?_
                  refine d_q rfl (q_neb rfl Try.underlying4 rfl rfl) rfl rfl ?_
                  refine d_q rfl (q_pick_t rfl rfl rfl) rfl rfl ?_
                  refine d_q rfl (q_pick_f rfl rfl rfl) rfl rfl ?_
                  refine d_nil ?_
                  refine k_then ?_
                  refine Pre.caseB 102 rfl (fun f7 => ?_) (fun f7 => ?_)
                  · refine c_true rfl ?_
                    refine c_seq ?_
                    refine c_region _ rfl ?_
                    refine l_q rfl (q_assign rfl rfl) rfl rfl ?_
                    refine l_nil ?_
                    refine k_then ?_
                    refine c_ret ?_
                    refine k_block_ret ?_
                    refine k_then_ret ?_
                    refine k_then_ret ?_
                    refine k_block_ret ?_
                    refine k_then_ret ?_
                    exfalso
                    simp_all [-List.getD_eq_getElem?_getD]
                  · refine c_false rfl ?_
                    refine c_skip ?_
                    refine k_block ?_
                    refine k_then ?_
                    refine c_region _ rfl ?_
                    refine l_q rfl (q_move rfl rfl) rfl rfl ?_
                    refine l_q rfl (q_inc rfl rfl rfl (by omega)) rfl rfl ?_
                    refine l_q rfl (q_assign rfl rfl) rfl rfl ?_
                    refine l_nil ?_
                    exact k_round ((i + 1, (ya || cs.getD i false), (yb || (cs.getD i false && !rs.getD i false)))) (by dsimp only; omega) ⟨by dsimp only; omega, sa, sb⟩ (Sub.cons rfl (Sub.cons rfl (Sub.cons rfl (Sub.cons rfl (Sub.cons rfl (Sub.cons rfl (Sub.cons rfl (Sub.consE rfl (by simp [*, -List.getD_eq_getElem?_getD]) (Sub.consE rfl (by simp [*, -List.getD_eq_getElem?_getD]) (Sub.cons rfl Sub.nil)))))))))) (fun _ h => h)
                · simp only [Bool.not_eq_true', Bool.not_eq_false'] at f6
                  refine d_not rfl rfl rfl ?_
                  refine d_not rfl rfl rfl ?_
                  refine d_not rfl rfl rfl ?_
                  refine d_not rfl rfl rfl ?_
                  refine d_not rfl rfl rfl ?_
                  refine d_not rfl rfl rfl ?_
                  refine d_not rfl rfl rfl ?_
                  refine d_not rfl rfl rfl ?_
                  refine d_not rfl rfl rfl ?_
                  refine d_q rfl (q_pick_f rfl rfl rfl) rfl rfl ?_
                  refine d_q rfl (q_pick_f rfl rfl rfl) rfl rfl ?_
                  refine d_nil ?_
                  refine k_then ?_
                  refine c_false rfl ?_
                  refine c_skip ?_
                  refine k_block ?_
                  refine k_then ?_
                  refine c_region _ rfl ?_
                  refine l_q rfl (q_move rfl rfl) rfl rfl ?_
                  refine l_q rfl (q_inc rfl rfl rfl (by omega)) rfl rfl ?_
                  refine l_q rfl (q_assign rfl rfl) rfl rfl ?_
                  refine l_nil ?_
                  exact k_round ((i + 1, (ya || cs.getD i false), (yb || (cs.getD i false && !rs.getD i false)))) (by dsimp only; omega) ⟨by dsimp only; omega, sa, sb⟩ (Sub.cons rfl (Sub.cons rfl (Sub.cons rfl (Sub.cons rfl (Sub.cons rfl (Sub.cons rfl (Sub.cons rfl (Sub.consE rfl (by simp [*, -List.getD_eq_getElem?_getD]) (Sub.consE rfl (by simp [*, -List.getD_eq_getElem?_getD]) (Sub.cons rfl Sub.nil)))))))))) (fun _ h => h)
            · refine d_not rfl rfl rfl ?_
              refine d_not rfl rfl rfl ?_
              refine d_not rfl rfl rfl ?_
              refine d_not rfl rfl rfl ?_
              refine d_not rfl rfl rfl ?_
              refine d_q rfl (q_pick_f rfl rfl rfl) rfl rfl ?_
              refine d_q rfl (q_move rfl rfl) rfl rfl ?_
              refine d_q rfl (q_move rfl rfl) rfl rfl ?_
              refine d_q rfl (q_move rfl rfl) rfl rfl ?_
              refine d_q rfl (q_indexV i rfl Try.underlying22 Try.sizeOf4 rfl (fun _ h => ha.keep h (by simp [dom])) rfl rfl (by omega)) rfl rfl ?_
              refine d_q rfl (q_loadV i 0 rfl Try.isAgg4 rfl rfl (fun _ h => ha.keep h (by simp [dom])) (gb (by omega)) rfl) rfl rfl ?_
              refine d_q rfl (q_not rfl rfl) rfl rfl ?_
              refine d_q rfl (q_move rfl rfl) rfl rfl ?_
              refine Pre.caseB 91 rfl (fun f8 => ?_) (fun f8 => ?_)
              · simp only [Bool.not_eq_true', Bool.not_eq_false'] at f8
                refine d_q rfl (q_move rfl rfl) rfl rfl ?_
                refine d_q rfl (q_move rfl rfl) rfl rfl ?_
                refine d_q rfl (q_indexV i rfl Try.underlying22 Try.sizeOf4 rfl (fun _ h => h.rd 1 rfl) rfl rfl (by omega)) rfl rfl ?_
                refine d_q rfl (q_loadV i 0 rfl Try.isAgg4 rfl rfl (fun _ h => h.rd 1 rfl) (gb (by omega)) rfl) rfl rfl ?_
                refine d_q rfl (q_move rfl rfl) rfl rfl ?_
                refine d_q rfl (q_move rfl rfl) rfl rfl ?_
                refine d_q rfl (q_indexV i rfl Try.underlying22 Try.sizeOf4 rfl (fun _ h => h.rd 0 rfl) rfl rfl (by omega)) rfl rfl ?_
                refine d_q rfl (q_loadV i 0 rfl Try.isAgg4 rfl rfl (fun _ h => h.rd 0 rfl) (gb (by omega)) rfl) rfl rfl ?_
                refine d_q rfl (q_neb rfl Try.underlying4 rfl rfl) rfl rfl ?_
                refine d_q rfl (q_pick_t rfl rfl rfl) rfl rfl ?_
                refine d_q rfl (q_pick_f rfl rfl rfl) rfl rfl ?_
                refine d_nil ?_
                refine k_then ?_
                refine Pre.caseB 102 rfl (fun f9 => ?_) (fun f9 => ?_)
                · refine c_true rfl ?_
                  refine c_seq ?_
                  refine c_region _ rfl ?_
                  refine l_q rfl (q_assign rfl rfl) rfl rfl ?_
                  refine l_nil ?_
                  refine k_then ?_
                  refine c_ret ?_
                  refine k_block_ret ?_
                  refine k_then_ret ?_
                  refine k_then_ret ?_
                  refine k_block_ret ?_
                  refine k_then_ret ?_
                  exfalso
                  simp_all [-List.getD_eq_getElem?_getD]
                · refine c_false rfl ?_
                  refine c_skip ?_
                  refine k_block ?_
                  refine k_then ?_
                  refine c_region _ rfl ?_
                  refine l_q rfl (q_move rfl rfl) rfl rfl ?_
                  refine l_q rfl (q_inc rfl rfl rfl (by omega)) rfl rfl ?_
                  refine l_q rfl (q_assign rfl rfl) rfl rfl ?_
                  refine l_nil ?_
                  exact k_round ((i + 1, (ya || cs.getD i false), (yb || (cs.getD i false && !rs.getD i false)))) (by dsimp only; omega) ⟨by dsimp only; omega, sa, sb⟩ (Sub.cons rfl (Sub.cons rfl (Sub.cons rfl (Sub.cons rfl (Sub.cons rfl (Sub.cons rfl (Sub.cons rfl (Sub.consE rfl (by simp [*, -List.getD_eq_getElem?_getD]) (Sub.consE rfl (by simp [*, -List.getD_eq_getElem?_getD]) (Sub.cons rfl Sub.nil)))))))))) (fun _ h => h)
              · simp only [Bool.not_eq_true', Bool.not_eq_false'] at f8
                refine d_not rfl rfl rfl ?_
                refine d_not rfl rfl rfl ?_
                refine d_not rfl rfl rfl ?_
                refine d_not rfl rfl rfl ?_
                refine d_not rfl rfl rfl ?_
                refine d_not rfl rfl rfl ?_
                refine d_not rfl rfl rfl ?_
                refine d_not rfl rfl rfl ?_
                refine d_not rfl rfl rfl ?_
                refine d_q rfl (q_pick_f rfl rfl rfl) rfl rfl ?_
                refine d_q rfl (q_pick_f rfl rfl rfl) rfl rfl ?_
                refine d_nil ?_
                refine k_then ?_
                refine c_false rfl ?_
                refine c_skip ?_
                refine k_block ?_
                refine k_then ?_
                refine c_region _ rfl ?_
                refine l_q rfl (q_move rfl rfl) rfl rfl ?_
                refine l_q rfl (q_inc rfl rfl rfl (by omega)) rfl rfl ?_
                refine l_q rfl (q_assign rfl rfl) rfl rfl ?_
                refine l_nil ?_
                exact k_round ((i + 1, (ya || cs.getD i false), (yb || (cs.getD i false && !rs.getD i false)))) (by dsimp only; omega) ⟨by dsimp only; omega, sa, sb⟩ (Sub.cons rfl (Sub.cons rfl (Sub.cons rfl (Sub.cons rfl (Sub.cons rfl (Sub.cons rfl (Sub.cons rfl (Sub.consE rfl (by simp [*, -List.getD_eq_getElem?_getD]) (Sub.consE rfl (by simp [*, -List.getD_eq_getElem?_getD]) (Sub.cons rfl Sub.nil)))))))))) (fun _ h => h)
          · refine l_q rfl (q_move rfl rfl) rfl rfl ?_
            refine l_q rfl (q_move rfl rfl) rfl rfl ?_
            refine l_q rfl (q_indexV i rfl Try.underlying22 Try.sizeOf4 rfl (fun _ h => ha.keep h (by simp [dom])) rfl rfl (by omega)) rfl rfl ?_
            refine l_q rfl (q_loadV i 0 rfl Try.isAgg4 rfl rfl (fun _ h => ha.keep h (by simp [dom])) (gb (by omega)) rfl) rfl rfl ?_
            refine l_q rfl (q_move rfl rfl) rfl rfl ?_
            refine Pre.caseB 66 rfl (fun f10 => ?_) (fun f10 => ?_)
            · refine l_q rfl (q_move rfl rfl) rfl rfl ?_
              refine l_q rfl (q_move rfl rfl) rfl rfl ?_
              refine l_q rfl (q_indexV i rfl Try.underlying22 Try.sizeOf4 rfl (fun _ h => h.rd 0 rfl) rfl rfl (by omega)) rfl rfl ?_
              refine l_q rfl (q_loadV i 0 rfl Try.isAgg4 rfl rfl (fun _ h => h.rd 0 rfl) (gb (by omega)) rfl) rfl rfl ?_
              refine l_q rfl (q_not rfl rfl) rfl rfl ?_
              refine l_q rfl (q_pick_t rfl rfl rfl) rfl rfl ?_
              refine l_q rfl (q_pick_f rfl rfl rfl) rfl rfl ?_
              refine l_q rfl (q_assign rfl rfl) rfl rfl ?_
              refine l_nil ?_
              refine k_then ?_
              refine c_seq ?_
              refine c_draw [(0, some true), (1, some true), (2, some true), (3, some true), (4, some true), (5, some true), (6, some true), (7, some true), (8, some true), (9, some true), (10, some true), (11, some true), (12, some true), (13, some true), (14, some true), (15, some true), (16, some true), (17, some true), (18, some true), (19, some true), (20, some true), (21, some true), (22, some true), (23, some true), (24, some true), (25, some true), (26, some true), (27, some true), (28, some true)] [] [(_, some true), (_, some true), (_, some true), (_, some true), (_, some true), (_, some true), (_, some true), (_, some true), (_, some true), (_, some true), (_, some true), (_, some true), (_, some true), (_, some true), (_, some true), (_, some true), (_, some true), (_, some true), (_, some true), (_, some true), (_, some true), (_, some true), (_, some true), (_, some true), (_, some true), (_, some true), (_, some true), (_, some true), (_, some true)] _ (blind_then (blind_block (blind_then (blind_then (blind_block (blind_then blind_body)))))) rfl (by kernel_rfl) (by kernel_rfl) rfl rfl rfl (by kernel_rfl) St.drawn (fun _ h => h) ?_
              refine d_q rfl (q_move rfl rfl) rfl rfl ?_
              refine d_q rfl (q_move rfl rfl) rfl rfl ?_
              refine d_q rfl (q_indexV i rfl Try.underlying22 Try.sizeOf4 rfl (fun _ h => h.rd 1 rfl) rfl rfl (by omega)) rfl rfl ?_
              refine d_q rfl (q_loadV i 0 rfl Try.isAgg4 rfl rfl (fun _ h => h.rd 1 rfl) (gb (by omega)) rfl) rfl rfl ?_
              refine d_q rfl (q_move rfl rfl) rfl rfl ?_
              refine Pre.caseB 78 rfl (fun f12 => ?_) (fun f12 => ?_)
              · refine d_q rfl (q_move rfl rfl) rfl rfl ?_
                refine d_q rfl (q_move rfl rfl) rfl rfl ?_
                refine d_q rfl (q_indexV i rfl Try.underlying22 Try.sizeOf4 rfl (fun _ h => h.rd 0 rfl) rfl rfl (by omega)) rfl rfl ?_
                refine d_q rfl (q_loadV i 0 rfl Try.isAgg4 rfl rfl (fun _ h => h.rd 0 rfl) (gb (by omega)) rfl) rfl rfl ?_
                refine d_q rfl (q_not rfl rfl) rfl rfl ?_
                refine d_q rfl (q_pick_t rfl rfl rfl) rfl rfl ?_
                refine d_q rfl (q_move rfl rfl) rfl rfl ?_
                refine Pre.caseB 85 rfl (fun f13 => ?_) (fun f13 => ?_)
                · simp only [Bool.not_eq_true', Bool.not_eq_false'] at f13
                  refine d_not rfl rfl rfl ?_
                  refine d_not rfl rfl rfl ?_
                  refine d_not rfl rfl rfl ?_
                  refine d_not rfl rfl rfl ?_
                  refine d_not rfl rfl rfl ?_
                  refine d_not rfl rfl rfl ?_
                  refine d_not rfl rfl rfl ?_
                  refine d_not rfl rfl rfl ?_
                  refine d_not rfl rfl rfl ?_
                  refine d_not rfl rfl rfl ?_
                  refine d_not rfl rfl rfl ?_
                  refine d_not rfl rfl rfl ?_
                  refine d_not rfl rfl rfl ?_
                  refine d_not rfl rfl rfl ?_
                  refine d_not rfl rfl rfl ?_
                  refine d_not rfl rfl rfl ?_
                  refine d_q rfl (q_pick_t rfl rfl rfl) rfl rfl ?_
                  refine d_nil ?_
                  refine k_then ?_
                  refine c_true rfl ?_
                  refine c_seq ?_
                  refine c_region _ rfl ?_
                  refine l_q rfl (q_assign rfl rfl) rfl rfl ?_
                  refine l_nil ?_
                  refine k_then ?_
                  refine c_ret ?_
                  refine k_block_ret ?_
                  refine k_then_ret ?_
                  refine k_then_ret ?_
                  refine k_block_ret ?_
                  refine k_then_ret ?_
                  exfalso
                  simp_all [-List.getD_eq_getElem?_getD]
                · simp only [Bool.not_eq_true', Bool.not_eq_false'] at f13
                  refine d_q rfl (q_move rfl rfl) rfl rfl ?_
                  refine d_q rfl (q_move rfl rfl) rfl rfl ?_
                  refine d_q rfl (q_indexV i rfl Try.underlying22 Try.sizeOf4 rfl (fun _ h => ha.keep h (by simp [dom])) rfl rfl (by omega)) rfl rfl ?_
                  refine d_q rfl (q_loadV i 0 rfl Try.isAgg4 rfl rfl (fun _ h => ha.keep h (by simp [dom])) (gb (by omega)) rfl) rfl rfl ?_
                  refine d_q rfl (q_not rfl rfl) rfl rfl ?_
                  refine d_q rfl (q_move rfl rfl) rfl rfl ?_
                  refine Pre.setB (t := 91) (c := false) rfl (by rw [f10]; rfl) ?_
                  refine d_not rfl rfl rfl ?_
                  refine d_not rfl rfl rfl ?_
                  refine d_not rfl rfl rfl ?_
                  refine d_not rfl rfl rfl ?_
                  refine d_not rfl rfl rfl ?_
                  refine d_not rfl rfl rfl ?_
                  refine d_not rfl rfl rfl ?_
                  refine d_not rfl rfl rfl ?_
                  refine d_not rfl rfl rfl ?_
                  refine d_q rfl (q_pick_f rfl rfl rfl) rfl rfl ?_
                  refine d_q rfl (q_pick_f rfl rfl rfl) rfl rfl ?_
                  refine d_nil ?_
                  refine k_then ?_
                  refine c_false rfl ?_
                  refine c_skip ?_
                  refine k_block ?_
                  refine k_then ?_
                  refine c_region _ rfl ?_
                  refine l_q rfl (q_move rfl rfl) rfl rfl ?_
                  refine l_q rfl (q_inc rfl rfl rfl (by omega)) rfl rfl ?_
                  refine l_q rfl (q_assign rfl rfl) rfl rfl ?_
                  refine l_nil ?_
                  exact k_round ((i + 1, (ya || cs.getD i false), (yb || (cs.getD i false && !rs.getD i false)))) (by dsimp only; omega) ⟨by dsimp only; omega, sa, sb⟩ (Sub.cons rfl (Sub.cons rfl (Sub.cons rfl (Sub.cons rfl (Sub.cons rfl (Sub.cons rfl (Sub.cons rfl (Sub.consE rfl (by simp [*, -List.getD_eq_getElem?_getD]) (Sub.consE rfl (by simp [*, -List.getD_eq_getElem?_getD]) (Sub.cons rfl Sub.nil)))))))))) (fun _ h => h)
              · refine d_not rfl rfl rfl ?_
                refine d_not rfl rfl rfl ?_
                refine d_not rfl rfl rfl ?_
                refine d_not rfl rfl rfl ?_
                refine d_not rfl rfl rfl ?_
                refine d_q rfl (q_pick_f rfl rfl rfl) rfl rfl ?_
                refine d_q rfl (q_move rfl rfl) rfl rfl ?_
                refine d_q rfl (q_move rfl rfl) rfl rfl ?_
                refine d_q rfl (q_move rfl rfl) rfl rfl ?_
                refine d_q rfl (q_indexV i rfl Try.underlying22 Try.sizeOf4 rfl (fun _ h => ha.keep h (by simp [dom])) rfl rfl (by omega)) rfl rfl ?_
                refine d_q rfl (q_loadV i 0 rfl Try.isAgg4 rfl rfl (fun _ h => ha.keep h (by simp [dom])) (gb (by omega)) rfl) rfl rfl ?_
                refine d_q rfl (q_not rfl rfl) rfl rfl ?_
                refine d_q rfl (q_move rfl rfl) rfl rfl ?_
                refine Pre.setB (t := 91) (c := false) rfl (by rw [f10]; rfl) ?_
                refine d_not rfl rfl rfl ?_
                refine d_not rfl rfl rfl ?_
                refine d_not rfl rfl rfl ?_
                refine d_not rfl rfl rfl ?_
                refine d_not rfl rfl rfl ?_
                refine d_not rfl rfl rfl ?_
                refine d_not rfl rfl rfl ?_
                refine d_not rfl rfl rfl ?_
                refine d_not rfl rfl rfl ?_
                refine d_q rfl (q_pick_f rfl rfl rfl) rfl rfl ?_
                refine d_q rfl (q_pick_f rfl rfl rfl) rfl rfl ?_
                refine d_nil ?_
                refine k_then ?_
                refine c_false rfl ?_
                refine c_skip ?_
                refine k_block ?_
                refine k_then ?_
                refine c_region _ rfl ?_
                refine l_q rfl (q_move rfl rfl) rfl rfl ?_
                refine l_q rfl (q_inc rfl rfl rfl (by omega)) rfl rfl ?_
                refine l_q rfl (q_assign rfl rfl) rfl rfl ?_
                refine l_nil ?_
                exact k_round ((i + 1, (ya || cs.getD i false), (yb || (cs.getD i false && !rs.getD i false)))) (by dsimp only; omega) ⟨by dsimp only; omega, sa, sb⟩ (Sub.cons rfl (Sub.cons rfl (Sub.cons rfl (Sub.cons rfl (Sub.cons rfl (Sub.cons rfl (Sub.cons rfl (Sub.consE rfl (by simp [*, -List.getD_eq_getElem?_getD]) (Sub.consE rfl (by simp [*, -List.getD_eq_getElem?_getD]) (Sub.cons rfl Sub.nil)))))))))) (fun _ h => h)
            · refine l_not rfl rfl rfl ?_
              refine l_not rfl rfl rfl ?_
              refine l_not rfl rfl rfl ?_
              refine l_not rfl rfl rfl ?_
              refine l_not rfl rfl rfl ?_
              refine l_q rfl (q_pick_f rfl rfl rfl) rfl rfl ?_
              refine l_q rfl (q_pick_f rfl rfl rfl) rfl rfl ?_
              refine l_q rfl (q_assign rfl rfl) rfl rfl ?_
              refine l_nil ?_
              refine k_then ?_
              refine c_seq ?_
              refine c_draw [(0, some true), (1, some true), (2, some true), (3, some true), (4, some true), (5, some true), (6, some true), (7, some true), (8, some true), (9, some true), (10, some true), (11, some true), (12, some true), (13, some true), (14, some true), (15, some true), (16, some true), (17, some true), (18, some true), (19, some true), (20, some true), (21, some true), (22, some true), (23, some true), (24, some true), (25, some true), (26, some true), (27, some true), (28, some true)] [] [(_, some true), (_, some true), (_, some true), (_, some true), (_, some true), (_, some true), (_, some true), (_, some true), (_, some true), (_, some true), (_, some true), (_, some true), (_, some true), (_, some true), (_, some true), (_, some true), (_, some true), (_, some true), (_, some true), (_, some true), (_, some true), (_, some true), (_, some true), (_, some true), (_, some true), (_, some true), (_, some true), (_, some true), (_, some true)] _ (blind_then (blind_block (blind_then (blind_then (blind_block (blind_then blind_body)))))) rfl (by kernel_rfl) (by kernel_rfl) rfl rfl rfl (by kernel_rfl) St.drawn (fun _ h => h) ?_
              refine d_q rfl (q_move rfl rfl) rfl rfl ?_
              refine d_q rfl (q_move rfl rfl) rfl rfl ?_
              refine d_q rfl (q_indexV i rfl Try.underlying22 Try.sizeOf4 rfl (fun _ h => h.rd 1 rfl) rfl rfl (by omega)) rfl rfl ?_
              refine d_q rfl (q_loadV i 0 rfl Try.isAgg4 rfl rfl (fun _ h => h.rd 1 rfl) (gb (by omega)) rfl) rfl rfl ?_
              refine d_q rfl (q_move rfl rfl) rfl rfl ?_
              refine Pre.caseB 78 rfl (fun f15 => ?_) (fun f15 => ?_)
              · refine d_q rfl (q_move rfl rfl) rfl rfl ?_
                refine d_q rfl (q_move rfl rfl) rfl rfl ?_
                refine d_q rfl (q_indexV i rfl Try.underlying22 Try.sizeOf4 rfl (fun _ h => h.rd 0 rfl) rfl rfl (by omega)) rfl rfl ?_
                refine d_q rfl (q_loadV i 0 rfl Try.isAgg4 rfl rfl (fun _ h => h.rd 0 rfl) (gb (by omega)) rfl) rfl rfl ?_
                refine d_q rfl (q_not rfl rfl) rfl rfl ?_
                refine d_q rfl (q_pick_t rfl rfl rfl) rfl rfl ?_
                refine d_q rfl (q_move rfl rfl) rfl rfl ?_
                refine Pre.caseB 85 rfl (fun f16 => ?_) (fun f16 => ?_)
                · simp only [Bool.not_eq_true', Bool.not_eq_false'] at f16
                  refine d_not rfl rfl rfl ?_
                  refine d_not rfl rfl rfl ?_
                  refine d_not rfl rfl rfl ?_
                  refine d_not rfl rfl rfl ?_
                  refine d_not rfl rfl rfl ?_
                  refine d_not rfl rfl rfl ?_
                  refine d_not rfl rfl rfl ?_
                  refine d_not rfl rfl rfl ?_
                  refine d_not rfl rfl rfl ?_
                  refine d_not rfl rfl rfl ?_
                  refine d_not rfl rfl rfl ?_
                  refine d_not rfl rfl rfl ?_
                  refine d_not rfl rfl rfl ?_
                  refine d_not rfl rfl rfl ?_
                  refine d_not rfl rfl rfl ?_
                  refine d_not rfl rfl rfl ?_
                  refine d_q rfl (q_pick_t rfl rfl rfl) rfl rfl ?_
                  refine d_nil ?_
                  refine k_then ?_
                  refine c_true rfl ?_
                  refine c_seq ?_
                  refine c_region _ rfl ?_
                  refine l_q rfl (q_assign rfl rfl) rfl rfl ?_
                  refine l_nil ?_
                  refine k_then ?_
                  refine c_ret ?_
                  refine k_block_ret ?_
                  refine k_then_ret ?_
                  refine k_then_ret ?_
                  refine k_block_ret ?_
                  refine k_then_ret ?_
                  exfalso
                  simp_all [-List.getD_eq_getElem?_getD]
                · simp only [Bool.not_eq_true', Bool.not_eq_false'] at f16
                  refine d_q rfl (q_move rfl rfl) rfl rfl ?_
                  refine d_q rfl (q_move rfl rfl) rfl rfl ?_
                  refine d_q rfl (q_indexV i rfl Try.underlying22 Try.sizeOf4 rfl (fun _ h => ha.keep h (by simp [dom])) rfl rfl (by omega)) rfl rfl ?_
                  refine d_q rfl (q_loadV i 0 rfl Try.isAgg4 rfl rfl (fun _ h => ha.keep h (by simp [dom])) (gb (by omega)) rfl) rfl rfl ?_
                  refine d_q rfl (q_not rfl rfl) rfl rfl ?_
                  refine d_q rfl (q_move rfl rfl) rfl rfl ?_
                  refine Pre.setB (t := 91) (c := true) rfl (by rw [f10]; rfl) ?_
                  refine d_q rfl (q_move rfl rfl) rfl rfl ?_
                  refine d_q rfl (q_move rfl rfl) rfl rfl ?_
                  refine d_q rfl (q_indexV i rfl Try.underlying22 Try.sizeOf4 rfl (fun _ h => h.rd 1 rfl) rfl rfl (by omega)) rfl rfl ?_
                  refine d_q rfl (q_loadV i 0 rfl Try.isAgg4 rfl rfl (fun _ h => h.rd 1 rfl) (gb (by omega)) rfl) rfl rfl ?_
                  refine d_q rfl (q_move rfl rfl) rfl rfl ?_
                  refine d_q rfl (q_move rfl rfl) rfl rfl ?_
                  refine d_q rfl (q_indexV i rfl Try.underlying22 Try.sizeOf4 rfl (fun _ h => h.rd 0 rfl) rfl rfl (by omega)) rfl rfl ?_
                  refine d_q rfl (q_loadV i 0 rfl Try.isAgg4 rfl rfl (fun _ h => h.rd 0 rfl) (gb (by omega)) rfl) rfl rfl ?_
                  refine d_q rfl (q_neb rfl Try.underlying4 rfl rfl) rfl rfl ?_
                  refine d_q rfl (q_pick_t rfl rfl rfl) rfl rfl ?_
                  refine d_q rfl (q_pick_f rfl rfl rfl) rfl rfl ?_
                  refine d_nil ?_
                  refine k_then ?_
                  refine Pre.caseB 102 rfl (fun f17 => ?_) (fun f17 => ?_)
                  · refine c_true rfl ?_
                    refine c_seq ?_
                    refine c_region _ rfl ?_
                    refine l_q rfl (q_assign rfl rfl) rfl rfl ?_
                    refine l_nil ?_
                    refine k_then ?_
                    refine c_ret ?_
                    refine k_block_ret ?_
                    refine k_then_ret ?_
                    refine k_then_ret ?_
                    refine k_block_ret ?_
                    refine k_then_ret ?_
                    exfalso
                    simp_all [-List.getD_eq_getElem?_getD]
                  · refine c_false rfl ?_
                    refine c_skip ?_
                    refine k_block ?_
                    refine k_then ?_
                    refine c_region _ rfl ?_
                    refine l_q rfl (q_move rfl rfl) rfl rfl ?_
                    refine l_q rfl (q_inc rfl rfl rfl (by omega)) rfl rfl ?_
                    refine l_q rfl (q_assign rfl rfl) rfl rfl ?_
                    refine l_nil ?_
                    exact k_round ((i + 1, (ya || cs.getD i false), (yb || (cs.getD i false && !rs.getD i false)))) (by dsimp only; omega) ⟨by dsimp only; omega, sa, sb⟩ (Sub.cons rfl (Sub.cons rfl (Sub.cons rfl (Sub.cons rfl (Sub.cons rfl (Sub.cons rfl (Sub.cons rfl (Sub.consE rfl (by simp [*, -List.getD_eq_getElem?_getD]) (Sub.consE rfl (by simp [*, -List.getD_eq_getElem?_getD]) (Sub.cons rfl Sub.nil)))))))))) (fun _ h => h)
              · refine d_not rfl rfl rfl ?_
                refine d_not rfl rfl rfl ?_
                refine d_not rfl rfl rfl ?_
                refine d_not rfl rfl rfl ?_
                refine d_not rfl rfl rfl ?_
                refine d_q rfl (q_pick_f rfl rfl rfl) rfl rfl ?_
                refine d_q rfl (q_move rfl rfl) rfl rfl ?_
                refine d_q rfl (q_move rfl rfl) rfl rfl ?_
                refine d_q rfl (q_move rfl rfl) rfl rfl ?_
                refine d_q rfl (q_indexV i rfl Try.underlying22 Try.sizeOf4 rfl (fun _ h => ha.keep h (by simp [dom])) rfl rfl (by omega)) rfl rfl ?_
                refine d_q rfl (q_loadV i 0 rfl Try.isAgg4 rfl rfl (fun _ h => ha.keep h (by simp [dom])) (gb (by omega)) rfl) rfl rfl ?_
                refine d_q rfl (q_not rfl rfl) rfl rfl ?_
                refine d_q rfl (q_move rfl rfl) rfl rfl ?_
                refine Pre.setB (t := 91) (c := true) rfl (by rw [f10]; rfl) ?_
                refine d_q rfl (q_move rfl rfl) rfl rfl ?_
                refine d_q rfl (q_move rfl rfl) rfl rfl ?_
                refine d_q rfl (q_indexV i rfl Try.underlying22 Try.sizeOf4 rfl (fun _ h => h.rd 1 rfl) rfl rfl (by omega)) rfl rfl ?_
                refine d_q rfl (q_loadV i 0 rfl Try.isAgg4 rfl rfl (fun _ h => h.rd 1 rfl) (gb (by omega)) rfl) rfl rfl ?_
                refine d_q rfl (q_move rfl rfl) rfl rfl ?_
                refine d_q rfl (q_move rfl rfl) rfl rfl ?_
                refine d_q rfl (q_indexV i rfl Try.underlying22 Try.sizeOf4 rfl (fun _ h => h.rd 0 rfl) rfl rfl (by omega)) rfl rfl ?_
                refine d_q rfl (q_loadV i 0 rfl Try.isAgg4 rfl rfl (fun _ h => h.rd 0 rfl) (gb (by omega)) rfl) rfl rfl ?_
                refine d_q rfl (q_neb rfl Try.underlying4 rfl rfl) rfl rfl ?_
                refine d_q rfl (q_pick_t rfl rfl rfl) rfl rfl ?_
                refine d_q rfl (q_pick_f rfl rfl rfl) rfl rfl ?_
                refine d_nil ?_
                refine k_then ?_
                refine Pre.caseB 102 rfl (fun f18 => ?_) (fun f18 => ?_)
                · refine c_true rfl ?_
                  refine c_seq ?_
                  refine c_region _ rfl ?_
                  refine l_q rfl (q_assign rfl rfl) rfl rfl ?_
                  refine l_nil ?_
                  refine k_then ?_
                  refine c_ret ?_
                  refine k_block_ret ?_
                  refine k_then_ret ?_
                  refine k_then_ret ?_
                  refine k_block_ret ?_
                  refine k_then_ret ?_
                  exfalso
                  simp_all [-List.getD_eq_getElem?_getD]
                · refine c_false rfl ?_
                  refine c_skip ?_
                  refine k_block ?_
                  refine k_then ?_
                  refine c_region _ rfl ?_
                  refine l_q rfl (q_move rfl rfl) rfl rfl ?_
                  refine l_q rfl (q_inc rfl rfl rfl (by omega)) rfl rfl ?_
                  refine l_q rfl (q_assign rfl rfl) rfl rfl ?_
                  refine l_nil ?_
                  exact k_round ((i + 1, (ya || cs.getD i false), (yb || (cs.getD i false && !rs.getD i false)))) (by dsimp only; omega) ⟨by dsimp only; omega, sa, sb⟩ (Sub.cons rfl (Sub.cons rfl (Sub.cons rfl (Sub.cons rfl (Sub.cons rfl (Sub.cons rfl (Sub.cons rfl (Sub.consE rfl (by simp [*, -List.getD_eq_getElem?_getD]) (Sub.consE rfl (by simp [*, -List.getD_eq_getElem?_getD]) (Sub.cons rfl Sub.nil)))))))))) (fun _ h => h)
        · refine l_q rfl (q_move rfl rfl) rfl rfl ?_
          refine l_q rfl (q_move rfl rfl) rfl rfl ?_
          refine l_q rfl (q_indexV i rfl Try.underlying22 Try.sizeOf4 rfl (fun _ h => ha.keep h (by simp [dom])) rfl rfl (by omega)) rfl rfl ?_
          refine l_q rfl (q_loadV i 0 rfl Try.isAgg4 rfl rfl (fun _ h => ha.keep h (by simp [dom])) (gb (by omega)) rfl) rfl rfl ?_
          refine l_q rfl (q_pick_f rfl rfl rfl) rfl rfl ?_
          refine l_q rfl (q_assign rfl rfl) rfl rfl ?_
          refine l_nil ?_
          refine k_then ?_
          refine c_seq ?_
          refine c_region _ rfl ?_
          refine l_q rfl (q_move rfl rfl) rfl rfl ?_
          refine l_q rfl (q_move rfl rfl) rfl rfl ?_
          refine Pre.caseB 61 rfl (fun f19 => ?_) (fun f19 => ?_)
          · refine l_not rfl rfl rfl ?_
            refine l_not rfl rfl rfl ?_
            refine l_not rfl rfl rfl ?_
            refine l_not rfl rfl rfl ?_
            refine l_not rfl rfl rfl ?_
            refine l_not rfl rfl rfl ?_
            refine l_not rfl rfl rfl ?_
            refine l_not rfl rfl rfl ?_
            refine l_not rfl rfl rfl ?_
            refine l_not rfl rfl rfl ?_
            refine l_not rfl rfl rfl ?_
            refine l_q rfl (q_pick_t rfl rfl rfl) rfl rfl ?_
            refine l_q rfl (q_assign rfl rfl) rfl rfl ?_
            refine l_nil ?_
            refine k_then ?_
            refine c_seq ?_
            refine c_draw [(0, some true), (1, some true), (2, some true), (3, some true), (4, some true), (5, some true), (6, some true), (7, some true), (8, some true), (9, some true), (10, some true), (11, some true), (12, some true), (13, some true), (14, some true), (15, some true), (16, some true), (17, some true), (18, some true), (19, some true), (20, some true), (21, some true), (22, some true), (23, some true), (24, some true), (25, some true), (26, some true), (27, some true), (28, some true)] [] [(_, some true), (_, some true), (_, some true), (_, some true), (_, some true), (_, some true), (_, some true), (_, some true), (_, some true), (_, some true), (_, some true), (_, some true), (_, some true), (_, some true), (_, some true), (_, some true), (_, some true), (_, some true), (_, some true), (_, some true), (_, some true), (_, some true), (_, some true), (_, some true), (_, some true), (_, some true), (_, some true), (_, some true), (_, some true)] _ (blind_then (blind_block (blind_then (blind_then (blind_block (blind_then blind_body)))))) rfl (by kernel_rfl) (by kernel_rfl) rfl rfl rfl (by kernel_rfl) St.drawn (fun _ h => h) ?_
            refine d_q rfl (q_move rfl rfl) rfl rfl ?_
            refine d_q rfl (q_move rfl rfl) rfl rfl ?_
            refine d_q rfl (q_indexV i rfl Try.underlying22 Try.sizeOf4 rfl (fun _ h => h.rd 1 rfl) rfl rfl (by omega)) rfl rfl ?_
            refine d_q rfl (q_loadV i 0 rfl Try.isAgg4 rfl rfl (fun _ h => h.rd 1 rfl) (gb (by omega)) rfl) rfl rfl ?_
            refine d_q rfl (q_move rfl rfl) rfl rfl ?_
            refine Pre.caseB 78 rfl (fun f21 => ?_) (fun f21 => ?_)
            · refine d_q rfl (q_move rfl rfl) rfl rfl ?_
              refine d_q rfl (q_move rfl rfl) rfl rfl ?_
              refine d_q rfl (q_indexV i rfl Try.underlying22 Try.sizeOf4 rfl (fun _ h => h.rd 0 rfl) rfl rfl (by omega)) rfl rfl ?_
              refine d_q rfl (q_loadV i 0 rfl Try.isAgg4 rfl rfl (fun _ h => h.rd 0 rfl) (gb (by omega)) rfl) rfl rfl ?_
              refine d_q rfl (q_not rfl rfl) rfl rfl ?_
              refine d_q rfl (q_pick_t rfl rfl rfl) rfl rfl ?_
              refine d_q rfl (q_move rfl rfl) rfl rfl ?_
              refine Pre.caseB 85 rfl (fun f22 => ?_) (fun f22 => ?_)
              · simp only [Bool.not_eq_true', Bool.not_eq_false'] at f22
                refine d_not rfl rfl rfl ?_
                refine d_not rfl rfl rfl ?_
                refine d_not rfl rfl rfl ?_
                refine d_not rfl rfl rfl ?_
                refine d_not rfl rfl rfl ?_
                refine d_not rfl rfl rfl ?_
                refine d_not rfl rfl rfl ?_
                refine d_not rfl rfl rfl ?_
                refine d_not rfl rfl rfl ?_
                refine d_not rfl rfl rfl ?_
                refine d_not rfl rfl rfl ?_
                refine d_not rfl rfl rfl ?_
                refine d_not rfl rfl rfl ?_
                refine d_not rfl rfl rfl ?_
                refine d_not rfl rfl rfl ?_
                refine d_not rfl rfl rfl ?_
                refine d_q rfl (q_pick_t rfl rfl rfl) rfl rfl ?_
                refine d_nil ?_
                refine k_then ?_
                refine c_true rfl ?_
                refine c_seq ?_
                refine c_region _ rfl ?_
                refine l_q rfl (q_assign rfl rfl) rfl rfl ?_
                refine l_nil ?_
                refine k_then ?_
                refine c_ret ?_
                refine k_block_ret ?_
                refine k_then_ret ?_
                refine k_then_ret ?_
                refine k_block_ret ?_
                refine k_then_ret ?_
                exfalso
                simp_all [-List.getD_eq_getElem?_getD]
              · simp only [Bool.not_eq_true', Bool.not_eq_false'] at f22
                refine d_q rfl (q_move rfl rfl) rfl rfl ?_
                refine d_q rfl (q_move rfl rfl) rfl rfl ?_
                refine d_q rfl (q_indexV i rfl Try.underlying22 Try.sizeOf4 rfl (fun _ h => ha.keep h (by simp [dom])) rfl rfl (by omega)) rfl rfl ?_
                refine d_q rfl (q_loadV i 0 rfl Try.isAgg4 rfl rfl (fun _ h => ha.keep h (by simp [dom])) (gb (by omega)) rfl) rfl rfl ?_
                refine d_q rfl (q_not rfl rfl) rfl rfl ?_
                refine d_q rfl (q_move rfl rfl) rfl rfl ?_
                refine Pre.caseB 91 rfl (fun f23 => ?_) (fun f23 => ?_)
                · simp only [Bool.not_eq_true', Bool.not_eq_false'] at f23
                  refine d_q rfl (q_move rfl rfl) rfl rfl ?_
                  refine d_q rfl (q_move rfl rfl) rfl rfl ?_
                  refine d_q rfl (q_indexV i rfl Try.underlying22 Try.sizeOf4 rfl (fun _ h => h.rd 1 rfl) rfl rfl (by omega)) rfl rfl ?_
                  refine d_q rfl (q_loadV i 0 rfl Try.isAgg4 rfl rfl (fun _ h => h.rd 1 rfl) (gb (by omega)) rfl) rfl rfl ?_
                  refine d_q rfl (q_move rfl rfl) rfl rfl ?_
                  refine d_q rfl (q_move rfl rfl) rfl rfl ?_
                  refine d_q rfl (q_indexV i rfl Try.underlying22 Try.sizeOf4 rfl (fun _ h => h.rd 0 rfl) rfl rfl (by omega)) rfl rfl ?_
                  refine d_q rfl (q_loadV i 0 rfl Try.isAgg4 rfl rfl (fun _ h => h.rd 0 rfl) (gb (by omega)) rfl) rfl rfl ?_
                  refine d_q rfl (q_neb rfl Try.underlying4 rfl rfl) rfl rfl ?_
                  refine d_q rfl (q_pick_t rfl rfl rfl) rfl rfl ?_
                  refine d_q rfl (q_pick_f rfl rfl rfl) rfl rfl ?_
                  refine d_nil ?_
                  refine k_then ?_
                  refine Pre.caseB 102 rfl (fun f24 => ?_) (fun f24 => ?_)
                  · refine c_true rfl ?_
                    refine c_seq ?_
                    refine c_region _ rfl ?_
                    refine l_q rfl (q_assign rfl rfl) rfl rfl ?_
                    refine l_nil ?_
                    refine k_then ?_
                    refine c_ret ?_
                    refine k_block_ret ?_
                    refine k_then_ret ?_
                    refine k_then_ret ?_
                    refine k_block_ret ?_
                    refine k_then_ret ?_
                    exfalso
                    simp_all [-List.getD_eq_getElem?_getD]
                  · refine c_false rfl ?_
                    refine c_skip ?_
                    refine k_block ?_
                    refine k_then ?_
                    refine c_region _ rfl ?_
                    refine l_q rfl (q_move rfl rfl) rfl rfl ?_
                    refine l_q rfl (q_inc rfl rfl rfl (by omega)) rfl rfl ?_
                    refine l_q rfl (q_assign rfl rfl) rfl rfl ?_
                    refine l_nil ?_
                    exact k_round ((i + 1, (ya || cs.getD i false), (yb || (cs.getD i false && !rs.getD i false)))) (by dsimp only; omega) ⟨by dsimp only; omega, sa, sb⟩ (Sub.cons rfl (Sub.cons rfl (Sub.cons rfl (Sub.cons rfl (Sub.cons rfl (Sub.cons rfl (Sub.cons rfl (Sub.consE rfl (by simp [*, -List.getD_eq_getElem?_getD]) (Sub.consE rfl (by simp [*, -List.getD_eq_getElem?_getD]) (Sub.cons rfl Sub.nil)))))))))) (fun _ h => h)
                · simp only [Bool.not_eq_true', Bool.not_eq_false'] at f23
                  refine d_not rfl rfl rfl ?_
                  refine d_not rfl rfl rfl ?_
                  refine d_not rfl rfl rfl ?_
                  refine d_not rfl rfl rfl ?_
                  refine d_not rfl rfl rfl ?_
                  refine d_not rfl rfl rfl ?_
                  refine d_not rfl rfl rfl ?_
                  refine d_not rfl rfl rfl ?_
                  refine d_not rfl rfl rfl ?_
                  refine d_q rfl (q_pick_f rfl rfl rfl) rfl rfl ?_
                  refine d_q rfl (q_pick_f rfl rfl rfl) rfl rfl ?_
                  refine d_nil ?_
                  refine k_then ?_
                  refine c_false rfl ?_
                  refine c_skip ?_
                  refine k_block ?_
                  refine k_then ?_
                  refine c_region _ rfl ?_
                  refine l_q rfl (q_move rfl rfl) rfl rfl ?_
                  refine l_q rfl (q_inc rfl rfl rfl (by omega)) rfl rfl ?_
                  refine l_q rfl (q_assign rfl rfl) rfl rfl ?_
                  refine l_nil ?_
                  exact k_round ((i + 1, (ya || cs.getD i false), (yb || (cs.getD i false && !rs.getD i false)))) (by dsimp only; omega) ⟨by dsimp only; omega, sa, sb⟩ (Sub.cons rfl (Sub.cons rfl (Sub.cons rfl (Sub.cons rfl (Sub.cons rfl (Sub.cons rfl (Sub.cons rfl (Sub.consE rfl (by simp [*, -List.getD_eq_getElem?_getD]) (Sub.consE rfl (by simp [*, -List.getD_eq_getElem?_getD]) (Sub.cons rfl Sub.nil)))))))))) (fun _ h => h)
            · refine d_not rfl rfl rfl ?_
              refine d_not rfl rfl rfl ?_
              refine d_not rfl rfl rfl ?_
              refine d_not rfl rfl rfl ?_
              refine d_not rfl rfl rfl ?_
              refine d_q rfl (q_pick_f rfl rfl rfl) rfl rfl ?_
              refine d_q rfl (q_move rfl rfl) rfl rfl ?_
              refine d_q rfl (q_move rfl rfl) rfl rfl ?_
              refine d_q rfl (q_move rfl rfl) rfl rfl ?_
              refine d_q rfl (q_indexV i rfl Try.underlying22 Try.sizeOf4 rfl (fun _ h => ha.keep h (by simp [dom])) rfl rfl (by omega)) rfl rfl ?_
              refine d_q rfl (q_loadV i 0 rfl Try.isAgg4 rfl rfl (fun _ h => ha.keep h (by simp [dom])) (gb (by omega)) rfl) rfl rfl ?_
              refine d_q rfl (q_not rfl rfl) rfl rfl ?_
              refine d_q rfl (q_move rfl rfl) rfl rfl ?_
              refine Pre.caseB 91 rfl (fun f25 => ?_) (fun f25 => ?_)
              · simp only [Bool.not_eq_true', Bool.not_eq_false'] at f25
                refine d_q rfl (q_move rfl rfl) rfl rfl ?_
                refine d_q rfl (q_move rfl rfl) rfl rfl ?_
                refine d_q rfl (q_indexV i rfl Try.underlying22 Try.sizeOf4 rfl (fun _ h => h.rd 1 rfl) rfl rfl (by omega)) rfl rfl ?_
                refine d_q rfl (q_loadV i 0 rfl Try.isAgg4 rfl rfl (fun _ h => h.rd 1 rfl) (gb (by omega)) rfl) rfl rfl ?_
                refine d_q rfl (q_move rfl rfl) rfl rfl ?_
                refine d_q rfl (q_move rfl rfl) rfl rfl ?_
                refine d_q rfl (q_indexV i rfl Try.underlying22 Try.sizeOf4 rfl (fun _ h => h.rd 0 rfl) rfl rfl (by omega)) rfl rfl ?_
                refine d_q rfl (q_loadV i 0 rfl Try.isAgg4 rfl rfl (fun _ h => h.rd 0 rfl) (gb (by omega)) rfl) rfl rfl ?_
                refine d_q rfl (q_neb rfl Try.underlying4 rfl rfl) rfl rfl ?_
                refine d_q rfl (q_pick_t rfl rfl rfl) rfl rfl ?_
                refine d_q rfl (q_pick_f rfl rfl rfl) rfl rfl ?_
                refine d_nil ?_
                refine k_then ?_
                refine Pre.caseB 102 rfl (fun f26 => ?_) (fun f26 => ?_)
                · refine c_true rfl ?_
                  refine c_seq ?_
                  refine c_region _ rfl ?_
                  refine l_q rfl (q_assign rfl rfl) rfl rfl ?_
                  refine l_nil ?_
                  refine k_then ?_
                  refine c_ret ?_
                  refine k_block_ret ?_
                  refine k_then_ret ?_
                  refine k_then_ret ?_
                  refine k_block_ret ?_
                  refine k_then_ret ?_
                  exfalso
                  simp_all [-List.getD_eq_getElem?_getD]
                · refine c_false rfl ?_
                  refine c_skip ?_
                  refine k_block ?_
                  refine k_then ?_
                  refine c_region _ rfl ?_
                  refine l_q rfl (q_move rfl rfl) rfl rfl ?_
                  refine l_q rfl (q_inc rfl rfl rfl (by omega)) rfl rfl ?_
                  refine l_q rfl (q_assign rfl rfl) rfl rfl ?_
                  refine l_nil ?_
                  exact k_round ((i + 1, (ya || cs.getD i false), (yb || (cs.getD i false && !rs.getD i false)))) (by dsimp only; omega) ⟨by dsimp only; omega, sa, sb⟩ (Sub.cons rfl (Sub.cons rfl (Sub.cons rfl (Sub.cons rfl (Sub.cons rfl (Sub.cons rfl (Sub.cons rfl (Sub.consE rfl (by simp [*, -List.getD_eq_getElem?_getD]) (Sub.consE rfl (by simp [*, -List.getD_eq_getElem?_getD]) (Sub.cons rfl Sub.nil)))))))))) (fun _ h => h)
              · simp only [Bool.not_eq_true', Bool.not_eq_false'] at f25
                refine d_not rfl rfl rfl ?_
                refine d_not rfl rfl rfl ?_
                refine d_not rfl rfl rfl ?_
                refine d_not rfl rfl rfl ?_
                refine d_not rfl rfl rfl ?_
                refine d_not rfl rfl rfl ?_
                refine d_not rfl rfl rfl ?_
                refine d_not rfl rfl rfl ?_
                refine d_not rfl rfl rfl ?_
                refine d_q rfl (q_pick_f rfl rfl rfl) rfl rfl ?_
                refine d_q rfl (q_pick_f rfl rfl rfl) rfl rfl ?_
                refine d_nil ?_
                refine k_then ?_
                refine c_false rfl ?_
                refine c_skip ?_
                refine k_block ?_
                refine k_then ?_
                refine c_region _ rfl ?_
                refine l_q rfl (q_move rfl rfl) rfl rfl ?_
                refine l_q rfl (q_inc rfl rfl rfl (by omega)) rfl rfl ?_
                refine l_q rfl (q_assign rfl rfl) rfl rfl ?_
                refine l_nil ?_
                exact k_round ((i + 1, (ya || cs.getD i false), (yb || (cs.getD i false && !rs.getD i false)))) (by dsimp only; omega) ⟨by dsimp only; omega, sa, sb⟩ (Sub.cons rfl (Sub.cons rfl (Sub.cons rfl (Sub.cons rfl (Sub.cons rfl (Sub.cons rfl (Sub.cons rfl (Sub.consE rfl (by simp [*, -List.getD_eq_getElem?_getD]) (Sub.consE rfl (by simp [*, -List.getD_eq_getElem?_getD]) (Sub.cons rfl Sub.nil)))))))))) (fun _ h => h)
          · refine l_q rfl (q_move rfl rfl) rfl rfl ?_
            refine l_q rfl (q_move rfl rfl) rfl rfl ?_
            refine l_q rfl (q_indexV i rfl Try.underlying22 Try.sizeOf4 rfl (fun _ h => ha.keep h (by simp [dom])) rfl rfl (by omega)) rfl rfl ?_
            refine l_q rfl (q_loadV i 0 rfl Try.isAgg4 rfl rfl (fun _ h => ha.keep h (by simp [dom])) (gb (by omega)) rfl) rfl rfl ?_
            refine l_q rfl (q_move rfl rfl) rfl rfl ?_
            refine Pre.caseB 66 rfl (fun f27 => ?_) (fun f27 => ?_)
            · refine l_q rfl (q_move rfl rfl) rfl rfl ?_
              refine l_q rfl (q_move rfl rfl) rfl rfl ?_
              refine l_q rfl (q_indexV i rfl Try.underlying22 Try.sizeOf4 rfl (fun _ h => h.rd 0 rfl) rfl rfl (by omega)) rfl rfl ?_
              refine l_q rfl (q_loadV i 0 rfl Try.isAgg4 rfl rfl (fun _ h => h.rd 0 rfl) (gb (by omega)) rfl) rfl rfl ?_
              refine l_q rfl (q_not rfl rfl) rfl rfl ?_
              refine l_q rfl (q_pick_t rfl rfl rfl) rfl rfl ?_
              refine l_q rfl (q_pick_f rfl rfl rfl) rfl rfl ?_
              refine l_q rfl (q_assign rfl rfl) rfl rfl ?_
              refine l_nil ?_
              refine k_then ?_
              refine c_seq ?_
              refine c_draw [(0, some true), (1, some true), (2, some true), (3, some true), (4, some true), (5, some true), (6, some true), (7, some true), (8, some true), (9, some true), (10, some true), (11, some true), (12, some true), (13, some true), (14, some true), (15, some true), (16, some true), (17, some true), (18, some true), (19, some true), (20, some true), (21, some true), (22, some true), (23, some true), (24, some true), (25, some true), (26, some true), (27, some true), (28, some true)] [] [(_, some true), (_, some true), (_, some true), (_, some true), (_, some true), (_, some true), (_, some true), (_, some true), (_, some true), (_, some true), (_, some true), (_, some true), (_, some true), (_, some true), (_, some true), (_, some true), (_, some true), (_, some true), (_, some true), (_, some true), (_, some true), (_, some true), (_, some true), (_, some true), (_, some true), (_, some true), (_, some true), (_, some true), (_, some true)] _ (blind_then (blind_block (blind_then (blind_then (blind_block (blind_then blind_body)))))) rfl (by kernel_rfl) (by kernel_rfl) rfl rfl rfl (by kernel_rfl) St.drawn (fun _ h => h) ?_
              refine d_q rfl (q_move rfl rfl) rfl rfl ?_
              refine d_q rfl (q_move rfl rfl) rfl rfl ?_
              refine d_q rfl (q_indexV i rfl Try.underlying22 Try.sizeOf4 rfl (fun _ h => h.rd 1 rfl) rfl rfl (by omega)) rfl rfl ?_
              refine d_q rfl (q_loadV i 0 rfl Try.isAgg4 rfl rfl (fun _ h => h.rd 1 rfl) (gb (by omega)) rfl) rfl rfl ?_
              refine d_q rfl (q_move rfl rfl) rfl rfl ?_
              refine Pre.caseB 78 rfl (fun f29 => ?_) (fun f29 => ?_)
              · refine d_q rfl (q_move rfl rfl) rfl rfl ?_
                refine d_q rfl (q_move rfl rfl) rfl rfl ?_
                refine d_q rfl (q_indexV i rfl Try.underlying22 Try.sizeOf4 rfl (fun _ h => h.rd 0 rfl) rfl rfl (by omega)) rfl rfl ?_
                refine d_q rfl (q_loadV i 0 rfl Try.isAgg4 rfl rfl (fun _ h => h.rd 0 rfl) (gb (by omega)) rfl) rfl rfl ?_
                refine d_q rfl (q_not rfl rfl) rfl rfl ?_
                refine d_q rfl (q_pick_t rfl rfl rfl) rfl rfl ?_
                refine d_q rfl (q_move rfl rfl) rfl rfl ?_
                refine Pre.caseB 85 rfl (fun f30 => ?_) (fun f30 => ?_)
                · simp only [Bool.not_eq_true', Bool.not_eq_false'] at f30
                  refine d_not rfl rfl rfl ?_
                  refine d_not rfl rfl rfl ?_
                  refine d_not rfl rfl rfl ?_
                  refine d_not rfl rfl rfl ?_
                  refine d_not rfl rfl rfl ?_
                  refine d_not rfl rfl rfl ?_
                  refine d_not rfl rfl rfl ?_
                  refine d_not rfl rfl rfl ?_
                  refine d_not rfl rfl rfl ?_
                  refine d_not rfl rfl rfl ?_
                  refine d_not rfl rfl rfl ?_
                  refine d_not rfl rfl rfl ?_
                  refine d_not rfl rfl rfl ?_
                  refine d_not rfl rfl rfl ?_
                  refine d_not rfl rfl rfl ?_
                  refine d_not rfl rfl rfl ?_
                  refine d_q rfl (q_pick_t rfl rfl rfl) rfl rfl ?_
                  refine d_nil ?_
                  refine k_then ?_
                  refine c_true rfl ?_
                  refine c_seq ?_
                  refine c_region _ rfl ?_
                  refine l_q rfl (q_assign rfl rfl) rfl rfl ?_
                  refine l_nil ?_
                  refine k_then ?_
                  refine c_ret ?_
                  refine k_block_ret ?_
                  refine k_then_ret ?_
                  refine k_then_ret ?_
                  refine k_block_ret ?_
                  refine k_then_ret ?_
                  exfalso
                  simp_all [-List.getD_eq_getElem?_getD]
                · simp only [Bool.not_eq_true', Bool.not_eq_false'] at f30
                  refine d_q rfl (q_move rfl rfl) rfl rfl ?_
                  refine d_q rfl (q_move rfl rfl) rfl rfl ?_
                  refine d_q rfl (q_indexV i rfl Try.underlying22 Try.sizeOf4 rfl (fun _ h => ha.keep h (by simp [dom])) rfl rfl (by omega)) rfl rfl ?_
                  refine d_q rfl (q_loadV i 0 rfl Try.isAgg4 rfl rfl (fun _ h => ha.keep h (by simp [dom])) (gb (by omega)) rfl) rfl rfl ?_
                  refine d_q rfl (q_not rfl rfl) rfl rfl ?_
                  refine d_q rfl (q_move rfl rfl) rfl rfl ?_
                  refine Pre.setB (t := 91) (c := false) rfl (by rw [f27]; rfl) ?_
                  refine d_not rfl rfl rfl ?_
                  refine d_not rfl rfl rfl ?_
                  refine d_not rfl rfl rfl ?_
                  refine d_not rfl rfl rfl ?_
                  refine d_not rfl rfl rfl ?_
                  refine d_not rfl rfl rfl ?_
                  refine d_not rfl rfl rfl ?_
                  refine d_not rfl rfl rfl ?_
                  refine d_not rfl rfl rfl ?_
                  refine d_q rfl (q_pick_f rfl rfl rfl) rfl rfl ?_
                  refine d_q rfl (q_pick_f rfl rfl rfl) rfl rfl ?_
                  refine d_nil ?_
                  refine k_then ?_
                  refine c_false rfl ?_
                  refine c_skip ?_
                  refine k_block ?_
                  refine k_then ?_
                  refine c_region _ rfl ?_
                  refine l_q rfl (q_move rfl rfl) rfl rfl ?_
                  refine l_q rfl (q_inc rfl rfl rfl (by omega)) rfl rfl ?_
                  refine l_q rfl (q_assign rfl rfl) rfl rfl ?_
                  refine l_nil ?_
                  exact k_round ((i + 1, (ya || cs.getD i false), (yb || (cs.getD i false && !rs.getD i false)))) (by dsimp only; omega) ⟨by dsimp only; omega, sa, sb⟩ (Sub.cons rfl (Sub.cons rfl (Sub.cons rfl (Sub.cons rfl (Sub.cons rfl (Sub.cons rfl (Sub.cons rfl (Sub.consE rfl (by simp [*, -List.getD_eq_getElem?_getD]) (Sub.consE rfl (by simp [*, -List.getD_eq_getElem?_getD]) (Sub.cons rfl Sub.nil)))))))))) (fun _ h => h)
              · refine d_not rfl rfl rfl ?_
                refine d_not rfl rfl rfl ?_
                refine d_not rfl rfl rfl ?_
                refine d_not rfl rfl rfl ?_
                refine d_not rfl rfl rfl ?_
                refine d_q rfl (q_pick_f rfl rfl rfl) rfl rfl ?_
                refine d_q rfl (q_move rfl rfl) rfl rfl ?_
                refine d_q rfl (q_move rfl rfl) rfl rfl ?_
                refine d_q rfl (q_move rfl rfl) rfl rfl ?_
                refine d_q rfl (q_indexV i rfl Try.underlying22 Try.sizeOf4 rfl (fun _ h => ha.keep h (by simp [dom])) rfl rfl (by omega)) rfl rfl ?_
                refine d_q rfl (q_loadV i 0 rfl Try.isAgg4 rfl rfl (fun _ h => ha.keep h (by simp [dom])) (gb (by omega)) rfl) rfl rfl ?_
                refine d_q rfl (q_not rfl rfl) rfl rfl ?_
                refine d_q rfl (q_move rfl rfl) rfl rfl ?_
                refine Pre.setB (t := 91) (c := false) rfl (by rw [f27]; rfl) ?_
                refine d_not rfl rfl rfl ?_
                refine d_not rfl rfl rfl ?_
                refine d_not rfl rfl rfl ?_
                refine d_not rfl rfl rfl ?_
                refine d_not rfl rfl rfl ?_
                refine d_not rfl rfl rfl ?_
                refine d_not rfl rfl rfl ?_
                refine d_not rfl rfl rfl ?_
                refine d_not rfl rfl rfl ?_
                refine d_q rfl (q_pick_f rfl rfl rfl) rfl rfl ?_
                refine d_q rfl (q_pick_f rfl rfl rfl) rfl rfl ?_
                refine d_nil ?_
                refine k_then ?_
                refine c_false rfl ?_
                refine c_skip ?_
                refine k_block ?_
                refine k_then ?_
                refine c_region _ rfl ?_
                refine l_q rfl (q_move rfl rfl) rfl rfl ?_
                refine l_q rfl (q_inc rfl rfl rfl (by omega)) rfl rfl ?_
                refine l_q rfl (q_assign rfl rfl) rfl rfl ?_
                refine l_nil ?_
                exact k_round ((i + 1, (ya || cs.getD i false), (yb || (cs.getD i false && !rs.getD i false)))) (by dsimp only; omega) ⟨by dsimp only; omega, sa, sb⟩ (Sub.cons rfl (Sub.cons rfl (Sub.cons rfl (Sub.cons rfl (Sub.cons rfl (Sub.cons rfl (Sub.cons rfl (Sub.consE rfl (by simp [*, -List.getD_eq_getElem?_getD]) (Sub.consE rfl (by simp [*, -List.getD_eq_getElem?_getD]) (Sub.cons rfl Sub.nil)))))))))) (fun _ h => h)
            · refine l_not rfl rfl rfl ?_
              refine l_not rfl rfl rfl ?_
              refine l_not rfl rfl rfl ?_
              refine l_not rfl rfl rfl ?_
              refine l_not rfl rfl rfl ?_
              refine l_q rfl (q_pick_f rfl rfl rfl) rfl rfl ?_
              refine l_q rfl (q_pick_f rfl rfl rfl) rfl rfl ?_
              refine l_q rfl (q_assign rfl rfl) rfl rfl ?_
              refine l_nil ?_
              refine k_then ?_
              refine c_seq ?_
              refine c_draw [(0, some true), (1, some true), (2, some true), (3, some true), (4, some true), (5, some true), (6, some true), (7, some true), (8, some true), (9, some true), (10, some true), (11, some true), (12, some true), (13, some true), (14, some true), (15, some true), (16, some true), (17, some true), (18, some true), (19, some true), (20, some true), (21, some true), (22, some true), (23, some true), (24, some true), (25, some true), (26, some true), (27, some true), (28, some true)] [] [(_, some true), (_, some true), (_, some true), (_, some true), (_, some true), (_, some true), (_, some true), (_, some true), (_, some true), (_, some true), (_, some true), (_, some true), (_, some true), (_, some true), (_, some true), (_, some true), (_, some true), (_, some true), (_, some true), (_, some true), (_, some true), (_, some true), (_, some true), (_, some true), (_, some true), (_, some true), (_, some true), (_, some true), (_, some true)] _ (blind_then (blind_block (blind_then (blind_then (blind_block (blind_then blind_body)))))) rfl (by kernel_rfl) (by kernel_rfl) rfl rfl rfl (by kernel_rfl) St.drawn (fun _ h => h) ?_
              refine d_q rfl (q_move rfl rfl) rfl rfl ?_
              refine d_q rfl (q_move rfl rfl) rfl rfl ?_
              refine d_q rfl (q_indexV i rfl Try.underlying22 Try.sizeOf4 rfl (fun _ h => h.rd 1 rfl) rfl rfl (by omega)) rfl rfl ?_
              refine d_q rfl (q_loadV i 0 rfl Try.isAgg4 rfl rfl (fun _ h => h.rd 1 rfl) (gb (by omega)) rfl) rfl rfl ?_
              refine d_q rfl (q_move rfl rfl) rfl rfl ?_
              refine Pre.caseB 78 rfl (fun f32 => ?_) (fun f32 => ?_)
              · refine d_q rfl (q_move rfl rfl) rfl rfl ?_
                refine d_q rfl (q_move rfl rfl) rfl rfl ?_
                refine d_q rfl (q_indexV i rfl Try.underlying22 Try.sizeOf4 rfl (fun _ h => h.rd 0 rfl) rfl rfl (by omega)) rfl rfl ?_
                refine d_q rfl (q_loadV i 0 rfl Try.isAgg4 rfl rfl (fun _ h => h.rd 0 rfl) (gb (by omega)) rfl) rfl rfl ?_
                refine d_q rfl (q_not rfl rfl) rfl rfl ?_
                refine d_q rfl (q_pick_t rfl rfl rfl) rfl rfl ?_
                refine d_q rfl (q_move rfl rfl) rfl rfl ?_
                refine Pre.caseB 85 rfl (fun f33 => ?_) (fun f33 => ?_)
                · simp only [Bool.not_eq_true', Bool.not_eq_false'] at f33
                  refine d_not rfl rfl rfl ?_
                  refine d_not rfl rfl rfl ?_
                  refine d_not rfl rfl rfl ?_
                  refine d_not rfl rfl rfl ?_
                  refine d_not rfl rfl rfl ?_
                  refine d_not rfl rfl rfl ?_
                  refine d_not rfl rfl rfl ?_
                  refine d_not rfl rfl rfl ?_
                  refine d_not rfl rfl rfl ?_
                  refine d_not rfl rfl rfl ?_
                  refine d_not rfl rfl rfl ?_
                  refine d_not rfl rfl rfl ?_
                  refine d_not rfl rfl rfl ?_
                  refine d_not rfl rfl rfl ?_
                  refine d_not rfl rfl rfl ?_
                  refine d_not rfl rfl rfl ?_
                  refine d_q rfl (q_pick_t rfl rfl rfl) rfl rfl ?_
                  refine d_nil ?_
                  refine k_then ?_
                  refine c_true rfl ?_
                  refine c_seq ?_
                  refine c_region _ rfl ?_
                  refine l_q rfl (q_assign rfl rfl) rfl rfl ?_
                  refine l_nil ?_
                  refine k_then ?_
                  refine c_ret ?_
                  refine k_block_ret ?_
                  refine k_then_ret ?_
                  refine k_then_ret ?_
                  refine k_block_ret ?_
                  refine k_then_ret ?_
                  exfalso
                  simp_all [-List.getD_eq_getElem?_getD]
                · simp only [Bool.not_eq_true', Bool.not_eq_false'] at f33
                  refine d_q rfl (q_move rfl rfl) rfl rfl ?_
                  refine d_q rfl (q_move rfl rfl) rfl rfl ?_
                  refine d_q rfl (q_indexV i rfl Try.underlying22 Try.sizeOf4 rfl (fun _ h => ha.keep h (by simp [dom])) rfl rfl (by omega)) rfl rfl ?_
                  refine d_q rfl (q_loadV i 0 rfl Try.isAgg4 rfl rfl (fun _ h => ha.keep h (by simp [dom])) (gb (by omega)) rfl) rfl rfl ?_
                  refine d_q rfl (q_not rfl rfl) rfl rfl ?_
                  refine d_q rfl (q_move rfl rfl) rfl rfl ?_
                  refine Pre.setB (t := 91) (c := true) rfl (by rw [f27]; rfl) ?_
                  refine d_q rfl (q_move rfl rfl) rfl rfl ?_
                  refine d_q rfl (q_move rfl rfl) rfl rfl ?_
                  refine d_q rfl (q_indexV i rfl Try.underlying22 Try.sizeOf4 rfl (fun _ h => h.rd 1 rfl) rfl rfl (by omega)) rfl rfl ?_
                  refine d_q rfl (q_loadV i 0 rfl Try.isAgg4 rfl rfl (fun _ h => h.rd 1 rfl) (gb (by omega)) rfl) rfl rfl ?_
                  refine d_q rfl (q_move rfl rfl) rfl rfl ?_
                  refine d_q rfl (q_move rfl rfl) rfl rfl ?_
                  refine d_q rfl (q_indexV i rfl Try.underlying22 Try.sizeOf4 rfl (fun _ h => h.rd 0 rfl) rfl rfl (by omega)) rfl rfl ?_
                  refine d_q rfl (q_loadV i 0 rfl Try.isAgg4 rfl rfl (fun _ h => h.rd 0 rfl) (gb (by omega)) rfl) rfl rfl ?_
                  refine d_q rfl (q_neb rfl Try.underlying4 rfl rfl) rfl rfl ?_
                  refine d_q rfl (q_pick_t rfl rfl rfl) rfl rfl ?_
                  refine d_q rfl (q_pick_f rfl rfl rfl) rfl rfl ?_
                  refine d_nil ?_
                  refine k_then ?_
                  refine Pre.caseB 102 rfl (fun f34 => ?_) (fun f34 => ?_)
                  · refine c_true rfl ?_
                    refine c_seq ?_
                    refine c_region _ rfl ?_
                    refine l_q rfl (q_assign rfl rfl) rfl rfl ?_
                    refine l_nil ?_
                    refine k_then ?_
                    refine c_ret ?_
                    refine k_block_ret ?_
                    refine k_then_ret ?_
                    refine k_then_ret ?_
                    refine k_block_ret ?_
                    refine k_then_ret ?_
                    exfalso
                    simp_all [-List.getD_eq_getElem?_getD]
                  · refine c_false rfl ?_
                    refine c_skip ?_
                    refine k_block ?_
                    refine k_then ?_
                    refine c_region _ rfl ?_
                    refine l_q rfl (q_move rfl rfl) rfl rfl ?_
                    refine l_q rfl (q_inc rfl rfl rfl (by omega)) rfl rfl ?_
                    refine l_q rfl (q_assign rfl rfl) rfl rfl ?_
                    refine l_nil ?_
                    exact k_round ((i + 1, (ya || cs.getD i false), (yb || (cs.getD i false && !rs.getD i false)))) (by dsimp only; omega) ⟨by dsimp only; omega, sa, sb⟩ (Sub.cons rfl (Sub.cons rfl (Sub.cons rfl (Sub.cons rfl (Sub.cons rfl (Sub.cons rfl (Sub.cons rfl (Sub.consE rfl (by simp [*, -List.getD_eq_getElem?_getD]) (Sub.consE rfl (by simp [*, -List.getD_eq_getElem?_getD]) (Sub.cons rfl Sub.nil)))))))))) (fun _ h => h)
              · refine d_not rfl rfl rfl ?_
                refine d_not rfl rfl rfl ?_
                refine d_not rfl rfl rfl ?_
                refine d_not rfl rfl rfl ?_
                refine d_not rfl rfl rfl ?_
                refine d_q rfl (q_pick_f rfl rfl rfl) rfl rfl ?_
                refine d_q rfl (q_move rfl rfl) rfl rfl ?_
                refine d_q rfl (q_move rfl rfl) rfl rfl ?_
                refine d_q rfl (q_move rfl rfl) rfl rfl ?_
                refine d_q rfl (q_indexV i rfl Try.underlying22 Try.sizeOf4 rfl (fun _ h => ha.keep h (by simp [dom])) rfl rfl (by omega)) rfl rfl ?_
                refine d_q rfl (q_loadV i 0 rfl Try.isAgg4 rfl rfl (fun _ h => ha.keep h (by simp [dom])) (gb (by omega)) rfl) rfl rfl ?_
                refine d_q rfl (q_not rfl rfl) rfl rfl ?_
                refine d_q rfl (q_move rfl rfl) rfl rfl ?_
                refine Pre.setB (t := 91) (c := true) rfl (by rw [f27]; rfl) ?_
                refine d_q rfl (q_move rfl rfl) rfl rfl ?_
                refine d_q rfl (q_move rfl rfl) rfl rfl ?_
                refine d_q rfl (q_indexV i rfl Try.underlying22 Try.sizeOf4 rfl (fun _ h => h.rd 1 rfl) rfl rfl (by omega)) rfl rfl ?_
                refine d_q rfl (q_loadV i 0 rfl Try.isAgg4 rfl rfl (fun _ h => h.rd 1 rfl) (gb (by omega)) rfl) rfl rfl ?_
                refine d_q rfl (q_move rfl rfl) rfl rfl ?_
                refine d_q rfl (q_move rfl rfl) rfl rfl ?_
                refine d_q rfl (q_indexV i rfl Try.underlying22 Try.sizeOf4 rfl (fun _ h => h.rd 0 rfl) rfl rfl (by omega)) rfl rfl ?_
                refine d_q rfl (q_loadV i 0 rfl Try.isAgg4 rfl rfl (fun _ h => h.rd 0 rfl) (gb (by omega)) rfl) rfl rfl ?_
                refine d_q rfl (q_neb rfl Try.underlying4 rfl rfl) rfl rfl ?_
                refine d_q rfl (q_pick_t rfl rfl rfl) rfl rfl ?_
                refine d_q rfl (q_pick_f rfl rfl rfl) rfl rfl ?_
                refine d_nil ?_
                refine k_then ?_
                refine Pre.caseB 102 rfl (fun f35 => ?_) (fun f35 => ?_)
                · refine c_true rfl ?_
                  refine c_seq ?_
                  refine c_region _ rfl ?_
                  refine l_q rfl (q_assign rfl rfl) rfl rfl ?_
                  refine l_nil ?_
                  refine k_then ?_
                  refine c_ret ?_
                  refine k_block_ret ?_
                  refine k_then_ret ?_
                  refine k_then_ret ?_
                  refine k_block_ret ?_
                  refine k_then_ret ?_
                  exfalso
                  simp_all [-List.getD_eq_getElem?_getD]
                · refine c_false rfl ?_
                  refine c_skip ?_
                  refine k_block ?_
                  refine k_then ?_
                  refine c_region _ rfl ?_
                  refine l_q rfl (q_move rfl rfl) rfl rfl ?_
                  refine l_q rfl (q_inc rfl rfl rfl (by omega)) rfl rfl ?_
                  refine l_q rfl (q_assign rfl rfl) rfl rfl ?_
                  refine l_nil ?_
                  exact k_round ((i + 1, (ya || cs.getD i false), (yb || (cs.getD i false && !rs.getD i false)))) (by dsimp only; omega) ⟨by dsimp only; omega, sa, sb⟩ (Sub.cons rfl (Sub.cons rfl (Sub.cons rfl (Sub.cons rfl (Sub.cons rfl (Sub.cons rfl (Sub.cons rfl (Sub.consE rfl (by simp [*, -List.getD_eq_getElem?_getD]) (Sub.consE rfl (by simp [*, -List.getD_eq_getElem?_getD]) (Sub.cons rfl Sub.nil)))))))))) (fun _ h => h)
      · simp only [decide_eq_true_eq, decide_eq_false_iff_not, Bool.not_eq_true', Bool.not_eq_false'] at hil
        have hie : i = cs.length := by omega
        subst hie
        refine c_false rfl ?_
        refine c_exit ?_
        refine k_then_exit ?_
        refine k_then_exit ?_
        refine k_block_exit ?_
        refine k_then ?_
        refine c_seq ?_
        refine c_seq ?_
        refine c_region _ rfl ?_
        refine l_q rfl (q_move rfl rfl) rfl rfl ?_
        refine l_q rfl (q_not rfl rfl) rfl rfl ?_
        refine l_nil ?_
        refine k_then ?_
        refine Pre.caseB 104 rfl (fun hany => ?_) (fun hany => ?_)
        · simp only [Bool.not_eq_true', Bool.not_eq_false'] at hany
          have hno : ∀ j, j < cs.length → cs.getD j false = false := fun j hj => by cases hc : cs.getD j false with | false => rfl | true => (have := hya.2 ⟨j, hj, hc⟩; rw [hany] at this; cases this)
          have hr := gs.no hno
          have hPn : swP cs rs hand = -1 := by unfold swP; rw [hr]
          have hNn : swN cs rs hand = hand % (cs.length : Int) := by unfold swN; rw [if_neg hnb, hr]
          have hr2 : (swM cs rs hand).2 = rs := by rw [hr]
          have b1 := Int.tmod_lt_of_pos hand (show (0 : Int) < (cs.length : Int) by omega)
          have b2 : -(cs.length : Int) < hand.tmod (cs.length : Int) := Int.lt_tmod_of_pos hand (by omega)
          have hrm := rest_mod (a := hand) (n := (cs.length : Int)) (by omega)
          refine c_true rfl ?_
          refine c_seq ?_
          refine c_region _ rfl ?_
          refine l_q rfl (q_move rfl rfl) rfl rfl ?_
          refine l_q rfl (q_eql rfl rfl rfl) rfl rfl ?_
          refine l_q rfl (q_move rfl rfl) rfl rfl ?_
          refine Pre.setB (t := 107) (c := true) rfl (by rw [hPn]; rfl) ?_
          refine l_q rfl (q_move rfl rfl) rfl rfl ?_
          refine l_q rfl (q_move rfl rfl) rfl rfl ?_
          refine l_q rfl (q_move rfl rfl) rfl rfl ?_
          refine l_q rfl (q_rem rfl rfl rfl (by omega)) rfl rfl ?_
          refine l_q rfl (q_move rfl rfl) rfl rfl ?_
          refine l_q rfl (q_add64 rfl rfl rfl (by omega)) rfl rfl ?_
          refine l_q rfl (q_move rfl rfl) rfl rfl ?_
          refine l_q rfl (q_rem_nn rfl rfl rfl (by omega) (by omega)) rfl rfl ?_
          refine l_q rfl (q_eql rfl rfl rfl) rfl rfl ?_
          refine l_q rfl (q_pick_t rfl rfl rfl) rfl rfl ?_
          refine l_q rfl (q_move rfl rfl) rfl rfl ?_
          refine Pre.setB (t := 118) (c := true) rfl (by rw [hNn, hrm]; simp) ?_
          refine l_q rfl (q_move rfl rfl) rfl rfl ?_
          refine l_q rfl (q_move rfl rfl) rfl rfl ?_
          refine l_e rfl ?_
          refine e_call_00 (same_spec (swM cs rs hand).2 rs (by omega)) rfl rfl rfl Try.call11 rfl (fun _ h => ⟨h.rd 1 rfl, h.rd 0 rfl⟩) ?_
          intro _ _
          refine l_q rfl (q_pick_t rfl rfl rfl) rfl rfl ?_
          refine l_q rfl (q_move rfl rfl) rfl rfl ?_
          refine Pre.setB (t := 123) (c := true) rfl (by rw [hr2]; simp) ?_
          refine l_e rfl ?_
          refine e_call_00 (awake_spec) rfl rfl rfl Try.call8 rfl (fun _ _ => trivial) ?_
          intro _ _
          refine l_q rfl (q_pick_t rfl rfl rfl) rfl rfl ?_
          refine l_q rfl (q_assign rfl rfl) rfl rfl ?_
          refine l_nil ?_
          refine k_then ?_
          refine c_ret ?_
          refine k_then_ret ?_
          refine r_one rfl rfl ?_
          exact fun _ h => ⟨(), rfl, trivial, h.nothing⟩
        · simp only [Bool.not_eq_true', Bool.not_eq_false'] at hany
          obtain ⟨j0, hj0, hc0⟩ := hya.1 hany
          obtain ⟨p, hp1, hp2, hp3, hp4⟩ := gs.yes j0 hj0 hc0
          have hpl := gs.lt p hp1
          obtain ⟨hPs, hNs⟩ := sw_some hp1
          refine Pre.setV (t := 9) (c := .int .i64 (p : Int)) rfl (by rw [hPs]) ?_
          refine c_false rfl ?_
          refine c_skip ?_
          refine k_then ?_
          refine c_seq ?_
          refine c_region _ rfl ?_
          refine l_q rfl (q_move rfl rfl) rfl rfl ?_
          refine l_q rfl (q_geq rfl rfl rfl) rfl rfl ?_
          refine l_q rfl (q_move rfl rfl) rfl rfl ?_
          refine Pre.setB (t := 128) (c := true) rfl (decide_eq_true (by omega)) ?_
          refine l_q rfl (q_move rfl rfl) rfl rfl ?_
          refine l_q rfl (q_move rfl rfl) rfl rfl ?_
          refine l_q rfl (q_indexV p rfl Try.underlying22 Try.sizeOf4 rfl (fun _ h => ha.keep h (by simp [dom])) rfl rfl (by omega)) rfl rfl ?_
          refine l_q rfl (q_loadV p 0 rfl Try.isAgg4 rfl rfl (fun _ h => ha.keep h (by simp [dom])) (gb hpl) rfl) rfl rfl ?_
          refine l_q rfl (q_pick_t rfl rfl rfl) rfl rfl ?_
          refine l_q rfl (q_move rfl rfl) rfl rfl ?_
          refine Pre.setB (t := 134) (c := true) rfl (hp2) ?_
          refine l_q rfl (q_move rfl rfl) rfl rfl ?_
          refine l_q rfl (q_move rfl rfl) rfl rfl ?_
          refine l_q rfl (q_indexV p rfl Try.underlying22 Try.sizeOf4 rfl (fun _ h => h.rd 0 rfl) rfl rfl (by omega)) rfl rfl ?_
          refine l_q rfl (q_loadV p 0 rfl Try.isAgg4 rfl rfl (fun _ h => h.rd 0 rfl) (gb (by omega)) rfl) rfl rfl ?_
          refine l_q rfl (q_not rfl rfl) rfl rfl ?_
          refine l_q rfl (q_move rfl rfl) rfl rfl ?_
          refine Pre.caseB 140 rfl (fun hrp => ?_) (fun hrp => ?_)
          · simp only [Bool.not_eq_true', Bool.not_eq_false'] at hrp
            refine l_not rfl rfl rfl ?_
            refine l_not rfl rfl rfl ?_
            refine l_q rfl (q_pick_t rfl rfl rfl) rfl rfl ?_
            refine l_q rfl (q_pick_t rfl rfl rfl) rfl rfl ?_
            refine l_q rfl (q_move rfl rfl) rfl rfl ?_
            refine l_q rfl (q_move rfl rfl) rfl rfl ?_
            refine l_q rfl (q_move rfl rfl) rfl rfl ?_
            refine l_q rfl (q_inc rfl rfl rfl (by omega)) rfl rfl ?_
            refine l_q rfl (q_move rfl rfl) rfl rfl ?_
            refine l_q rfl (q_rem_nn rfl rfl rfl (by omega) (by omega)) rfl rfl ?_
            refine l_q rfl (q_eql rfl rfl rfl) rfl rfl ?_
            refine l_q rfl (q_pick_t rfl rfl rfl) rfl rfl ?_
            refine l_q rfl (q_move rfl rfl) rfl rfl ?_
            refine Pre.setB (t := 153) (c := true) rfl (by rw [hNs]; exact decide_eq_true (by omega)) ?_
            refine l_q rfl (q_move rfl rfl) rfl rfl ?_
            refine l_q rfl (q_move rfl rfl) rfl rfl ?_
            refine l_q rfl (q_indexV p rfl Try.underlying22 Try.sizeOf4 rfl (fun _ h => h.rd 1 rfl) rfl rfl (by omega)) rfl rfl ?_
            refine l_q rfl (q_loadV p 0 rfl Try.isAgg4 rfl rfl (fun _ h => h.rd 1 rfl) (gb (by omega)) rfl) rfl rfl ?_
            refine l_q rfl (q_not rfl rfl) rfl rfl ?_
            refine l_q rfl (q_pick_t rfl rfl rfl) rfl rfl ?_
            refine l_q rfl (q_move rfl rfl) rfl rfl ?_
            refine Pre.setB (t := 160) (c := true) rfl (by rw [hp4]; rfl) ?_
            refine l_e rfl ?_
            refine e_call_00 (awake_spec) rfl rfl rfl Try.call8 rfl (fun _ _ => trivial) ?_
            intro _ _
            refine l_q rfl (q_pick_t rfl rfl rfl) rfl rfl ?_
            refine l_q rfl (q_assign rfl rfl) rfl rfl ?_
            refine l_nil ?_
            refine k_then ?_
            refine c_ret ?_
            refine r_one rfl rfl ?_
            exact fun _ h => ⟨(), rfl, trivial, h.nothing⟩
          · simp only [Bool.not_eq_true', Bool.not_eq_false'] at hrp
            have hyb0 : yb = false := by cases hyb1 : yb with | false => rfl | true => (obtain ⟨j, hj, hq⟩ := hyb.1 hyb1; rcases hp3 with h | h; rw [hrp] at h; cases h; simp only [Bool.and_eq_true, Bool.not_eq_true'] at hq; rw [h j hj hq.1] at hq; cases hq.2)
            refine l_q rfl (q_move rfl rfl) rfl rfl ?_
            refine l_q rfl (q_not rfl rfl) rfl rfl ?_
            refine l_q rfl (q_pick_f rfl rfl rfl) rfl rfl ?_
            refine l_q rfl (q_pick_t rfl rfl rfl) rfl rfl ?_
            refine l_q rfl (q_move rfl rfl) rfl rfl ?_
            refine Pre.setB (t := 145) (c := true) rfl (by rw [hyb0]; rfl) ?_
            refine l_q rfl (q_move rfl rfl) rfl rfl ?_
            refine l_q rfl (q_move rfl rfl) rfl rfl ?_
            refine l_q rfl (q_inc rfl rfl rfl (by omega)) rfl rfl ?_
            refine l_q rfl (q_move rfl rfl) rfl rfl ?_
            refine l_q rfl (q_rem_nn rfl rfl rfl (by omega) (by omega)) rfl rfl ?_
            refine l_q rfl (q_eql rfl rfl rfl) rfl rfl ?_
            refine l_q rfl (q_pick_t rfl rfl rfl) rfl rfl ?_
            refine l_q rfl (q_move rfl rfl) rfl rfl ?_
            refine Pre.setB (t := 153) (c := true) rfl (by rw [hNs]; exact decide_eq_true (by omega)) ?_
            refine l_q rfl (q_move rfl rfl) rfl rfl ?_
            refine l_q rfl (q_move rfl rfl) rfl rfl ?_
            refine l_q rfl (q_indexV p rfl Try.underlying22 Try.sizeOf4 rfl (fun _ h => h.rd 1 rfl) rfl rfl (by omega)) rfl rfl ?_
            refine l_q rfl (q_loadV p 0 rfl Try.isAgg4 rfl rfl (fun _ h => h.rd 1 rfl) (gb (by omega)) rfl) rfl rfl ?_
            refine l_q rfl (q_not rfl rfl) rfl rfl ?_
            refine l_q rfl (q_pick_t rfl rfl rfl) rfl rfl ?_
            refine l_q rfl (q_move rfl rfl) rfl rfl ?_
            refine Pre.setB (t := 160) (c := true) rfl (by rw [hp4]; rfl) ?_
            refine l_e rfl ?_
            refine e_call_00 (awake_spec) rfl rfl rfl Try.call8 rfl (fun _ _ => trivial) ?_
            intro _ _
            refine l_q rfl (q_pick_t rfl rfl rfl) rfl rfl ?_
            refine l_q rfl (q_assign rfl rfl) rfl rfl ?_
            refine l_nil ?_
            refine k_then ?_
            refine c_ret ?_
            refine r_one rfl rfl ?_
            exact fun _ h => ⟨(), rfl, trivial, h.nothing⟩
theorem clockGoes_walk (w : World) (A0 : Option Addr) (c0 : Nat) (z0 : List Bool) (rd0 : Rd w w.heap.size A0 (z0.map .bool)) (l0 : z0.length ≤ c0) (m0 : c0 ≤ maxLen) (A1 : Option Addr) (c1 : Nat) (z1 : List Bool) (rd1 : Rd w w.heap.size A1 (z1.map .bool)) (l1 : z1.length ≤ c1) (m1 : c1 ≤ maxLen) (a2 : Int) (w2 : (Lit.int .i64 a2).wf = true) :
    Calls Try.prog 4 #[.slice A0 z0.length c0, .slice A1 z1.length c1, .int .i64 a2] w fun e w' => e = .returned (.bool true) ∧ Below w.heap.size w w' := by
  have f0 := flat_one' encB Value.bool (fun _ => rfl) z0
  rw [← f0] at rd0
  have f1 := flat_one' encB Value.bool (fun _ => rfl) z1
  rw [← f1] at rd1
  exact con_walk (goes_spec z0 z1 a2 w2) ⟨rdv_of rd0 l0, rdv_of rd1 l1⟩
end Go.Proofs.Ythjnfbpimcdndaa
