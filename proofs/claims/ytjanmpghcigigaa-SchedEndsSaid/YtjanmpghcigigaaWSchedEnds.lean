/- SchedEnds, walked -/
import Derived.Test.YtjanmpghcigigaaP
import Derived.Test.YtjanmpghcigigaaS9
set_option linter.unusedVariables false
set_option linter.unusedSimpArgs false
namespace Go.Proofs.Ytjanmpghcigigaa
open Go.Sep Go.RowKit

theorem gb {l : List Bool} {k : Nat} (h : k < l.length) : l[k]? = some (l.getD k false) := by simp [List.getD_eq_getElem?_getD, h]
theorem getD_setb {l : List Bool} {k j : Nat} {x : Bool} : (l.set k x).getD j false = if k = j ∧ k < l.length then x else l.getD j false := by
  simp only [List.getD_eq_getElem?_getD, List.getElem?_set]
  by_cases hk : k = j
  · subst hk; by_cases hl : k < l.length <;> simp [hl]
  · simp [hk]
theorem turn_dead {m : Tab} {i s : Int} (h : m.st.getD i.toNat 0 = 2) : turnM m i s = m := by
  unfold turnM; rw [if_neg (fun x => x.2.2 h)]
/-- Who is gone has ended, the others are runnable. -/
structure Env2 (k i : Nat) (m : Tab) (g : List Bool) (left : Nat) : Prop where
  n : m.n = k
  ok : m.Ok (9 * i)
  gl : g.length = k
  st : ∀ j, j < k → m.st.getD j 0 = if g.getD j false then 2 else 0
  left : left = (runM m).length
theorem env0 {k : Nat} (h1 : 1 ≤ k) (h8 : k ≤ 8) : Env2 k 0 (newM k) (List.replicate k false) k := by
  have hs : ∀ j, (newM k).st.getD j 0 = 0 := fun j => rep_get k j
  refine ⟨rfl, new_ok h1 h8, by simp, fun j _ => ?_, ?_⟩
  · have : (List.replicate k false).getD j false = false := by
      simp only [List.getD_eq_getElem?_getD, List.getElem?_replicate]; split <;> rfl
    rw [hs, this]; rfl
  · rw [run_all (fun j _ => hs j)]; simp [newM]
theorem erase_run {m m' : Tab} {j : Nat} (hn : m'.n = m.n) (hs : ∀ x, x < m.n → (m'.st.getD x 0 = 0 ↔ m.st.getD x 0 = 0 ∧ x ≠ j)) : runM m' = (runM m).erase j := by
  rw [(runM_nodup m).erase_eq_filter]
  unfold runM
  rw [List.filter_filter, hn]
  refine List.filter_congr (fun x hx => ?_)
  have := hs x (List.mem_range.1 hx)
  rw [Bool.eq_iff_iff]
  simp only [decide_eq_true_eq, this, Bool.and_eq_true, bne_iff_ne, ne_eq]
  exact ⟨fun h => ⟨h.2, h.1⟩, fun h => ⟨h.2, h.1⟩⟩
theorem env_step {k i : Nat} {m : Tab} {g : List Bool} {left : Nat} (h : Env2 k i m g left) {j : Nat} (hj : j < k) : (turnM m j 2).st.getD j 0 = 2 ∧ Env2 k i (turnM m j 2) (g.set j true) (if g.getD j false then left else left - 1) ∧ (g.getD j false = false → 1 ≤ left) := by
  have hst := fun x => turn_st h.ok j 2 x (by rw [h.n]; exact hj)
  have hjs := h.st j hj
  have h2 : (turnM m j 2).st.getD j 0 = 2 := by
    rw [hst j]
    by_cases hg : m.st.getD j 0 = 2
    · rw [if_neg (fun x => x.2 hg)]; exact hg
    · rw [if_pos ⟨rfl, hg⟩]
  have hne : ∀ x, x ≠ j → (turnM m j 2).st.getD x 0 = m.st.getD x 0 := fun x hx => by rw [hst x, if_neg (fun y => hx y.1)]
  have hrun : runM (turnM m j 2) = (runM m).erase j := erase_run (turn_n m j 2) (fun x _ => by
    by_cases hx : x = j
    · subst hx; rw [h2]; simp
    · rw [hne x hx]; simp [hx])
  have hlen : (runM (turnM m j 2)).length = if g.getD j false then left else left - 1 := by
    rw [hrun, h.left]
    split
    · rename_i hg
      rw [List.erase_of_not_mem]
      intro hm
      have := (run_mem.1 hm).2
      rw [hjs, hg] at this
      simp at this
    · rename_i hg
      rw [List.length_erase_of_mem]
      exact run_mem.2 ⟨by rw [h.n]; exact hj, by rw [hjs, if_neg hg]⟩
  refine ⟨h2, ⟨(turn_n m j 2).trans h.n, turn_ok h.ok j 2, by simp [h.gl], fun x hx => ?_, hlen.symm⟩, fun hg => ?_⟩
  · have e : (g.set j true).getD x false = if j = x ∧ j < g.length then true else g.getD x false := getD_setb
    by_cases hxj : x = j
    · subst hxj
      rw [if_pos ⟨rfl, by rw [h.gl]; exact hj⟩] at e
      rw [h2, e]; rfl
    · rw [if_neg (fun y => hxj y.1.symm)] at e
      rw [hne x hxj, e]; exact h.st x hx
  · rw [h.left]
    exact List.length_pos_iff.2 (List.ne_nil_of_mem (run_mem.2 ⟨by rw [h.n]; exact hj, by rw [hjs, hg]; rfl⟩))
theorem env_pick {k i : Nat} {m : Tab} {g : List Bool} {left : Nat} (h : Env2 k i m g left) (p : Int) : Env2 k (i + 1) (pickM m p) g left := by
  by_cases hr : runM m = []
  · rw [pick_none hr]; exact ⟨h.n, h.ok.mono (by omega), h.gl, h.st, h.left⟩
  · have hs : (pickM m p).st = m.st := pick_st hr
    have hn := pick_n m p
    refine ⟨hn.trans h.n, (pick_ok h.ok p).mono (by omega), h.gl, fun j hj => by rw [hs]; exact h.st j hj, ?_⟩
    rw [h.left]; unfold runM; rw [hs, hn]
theorem env_who {k i : Nat} {m : Tab} {g : List Bool} {left : Nat} (h : Env2 k i m g left) (h1 : 1 ≤ k) (p : Int) : whoM m p < k ∧ (runM m ≠ [] → g.getD (whoM m p) false = false) := by
  by_cases hr : runM m = []
  · exact ⟨by unfold whoM; rw [hr]; exact h1, fun x => absurd hr x⟩
  · have hm := run_mem.1 (who_mem p hr)
    rw [h.n] at hm
    refine ⟨hm.1, fun _ => ?_⟩
    have := h.st _ hm.1
    rw [hm.2] at this
    cases hg : g.getD (whoM m p) false with
    | false => rfl
    | true => rw [hg] at this; simp at this
theorem env_end {k i : Nat} {m : Tab} {g : List Bool} {left : Nat} (h : Env2 k i m g left) : endM m = decide (left = 0) := by
  rw [Bool.eq_iff_iff, decide_eq_true_eq, h.left, List.length_eq_zero_iff]
  unfold endM
  rw [List.all_eq_true]
  constructor
  · intro ha
    refine List.eq_nil_iff_forall_not_mem.2 (fun x hx => ?_)
    have hm := run_mem.1 hx
    have := ha x (List.mem_range.2 hm.1)
    rw [hm.2] at this; simp at this
  · intro hr x hx
    have hx' := List.mem_range.1 hx
    rw [h.n] at hx'
    have := h.st x hx'
    cases hg : g.getD x false with
    | true => rw [hg] at this; rw [this]; rfl
    | false =>
      rw [hg] at this
      have hm : x ∈ runM m := run_mem.2 ⟨by rw [h.n]; exact hx', this⟩
      rw [hr] at hm; cases hm

set_option maxRecDepth 100000 in
set_option maxHeartbeats 1000000 in
theorem ends_spec {va : Value} (n : Int) (l : List Int) (hbd : ∀ z ∈ l, 0 ≤ z ∧ z ≤ 255) : Con Try.prog 6 [.int .i64 n, va] (fun w => RdV w va (encI .u8) l) [] (fun _ : Unit => .bool true) (fun _ => True) (fun _ => []) := by
  intro w hl hH
  obtain ⟨k, hk, h1, h8⟩ : ∃ k : Nat, 1 + n % 8 = (k : Int) ∧ 1 ≤ k ∧ k ≤ 8 := ⟨(1 + n % 8).toNat, by omega, by omega, by omega⟩
  refine enter (n := 123) (vs := [.int .i64 n, va]) (St w [] []) Try.func6 rfl rfl rfl (St.init hH) ?_
  refine c_seq ?_
  refine c_region _ rfl ?_
  refine l_q rfl (q_assign rfl rfl) rfl rfl ?_
  refine l_nil ?_
  refine k_then ?_
  refine c_seq ?_
  refine c_region _ rfl ?_
  refine l_q rfl (q_move rfl rfl) rfl rfl ?_
  refine l_e rfl ?_
  refine e_call_00 (place_spec n 8 (by decide) (by decide)) rfl rfl rfl Try.call8 rfl (fun _ _ => trivial) ?_
  intro _ _
  refine l_q rfl (q_add64 rfl rfl rfl (by omega)) rfl rfl ?_
  refine l_q rfl (q_assign rfl rfl) rfl rfl ?_
  refine l_nil ?_
  refine k_then ?_
  refine c_seq ?_
  refine c_region _ rfl ?_
  refine l_q rfl (q_move rfl rfl) rfl rfl ?_
  refine Pre.setV (t := 18) (c := .int .i64 (k : Int)) rfl (congrArg (Value.int .i64) hk) ?_
  refine l_e rfl ?_
  refine e_call_01 (new_yes h1 h8) rfl rfl rfl Try.call9 rfl (fun _ _ => trivial) ?_
  intro b _
  refine l_q rfl (q_move rfl rfl) rfl rfl ?_
  refine l_q rfl (q_extract rfl rfl rfl) rfl rfl ?_
  refine l_q rfl (q_extract rfl rfl rfl) rfl rfl ?_
  refine l_q rfl (q_assign rfl rfl) rfl rfl ?_
  refine l_q rfl (q_assign rfl rfl) rfl rfl ?_
  refine l_nil ?_
  refine k_then ?_
  refine c_seq ?_
  refine c_seq ?_
  refine c_region _ rfl ?_
  refine l_q rfl (q_move rfl rfl) rfl rfl ?_
  refine l_q rfl (q_neq rfl rfl rfl) rfl rfl ?_
  refine l_q rfl (q_move rfl rfl) rfl rfl ?_
  refine Pre.setV (t := 5) (c := .int .i64 (k : Int)) rfl (congrArg (Value.int .i64) hk) ?_
  refine Pre.setB (t := 24) (c := false) rfl (rfl) ?_
  refine l_q rfl (q_move rfl rfl) rfl rfl ?_
  refine l_q rfl (q_eqp rfl Try.underlying24 rfl rfl) rfl rfl ?_
  refine l_q rfl (q_pick_f rfl rfl rfl) rfl rfl ?_
  refine l_q rfl (q_move rfl rfl) rfl rfl ?_
  refine Pre.setB (t := 28) (c := false) rfl (rfl) ?_
  refine l_q rfl (q_move rfl rfl) rfl rfl ?_
  refine l_q rfl (q_lenV rfl Try.underlying48 rfl (fun _ h => hl.keep h (by simp [dom]))) rfl rfl ?_
  refine l_q rfl (q_gtr rfl rfl rfl) rfl rfl ?_
  refine l_q rfl (q_pick_f rfl rfl rfl) rfl rfl ?_
  refine l_nil ?_
  refine k_then ?_
  refine Pre.caseB 32 rfl (fun hlen => ?_) (fun hlen => ?_)
  · simp only [decide_eq_true_eq, decide_eq_false_iff_not, Bool.not_eq_true', Bool.not_eq_false'] at hlen
    refine c_true rfl ?_
    refine c_seq ?_
    refine c_region _ rfl ?_
    refine l_q rfl (q_move rfl rfl) rfl rfl ?_
    refine l_q rfl (q_eql rfl rfl rfl) rfl rfl ?_
    refine l_q rfl (q_move rfl rfl) rfl rfl ?_
    refine Pre.setB (t := 35) (c := true) rfl (rfl) ?_
    refine l_q rfl (q_move rfl rfl) rfl rfl ?_
    refine l_q rfl (q_nep rfl Try.underlying24 rfl rfl) rfl rfl ?_
    refine l_q rfl (q_pick_t rfl rfl rfl) rfl rfl ?_
    refine l_q rfl (q_move rfl rfl) rfl rfl ?_
    refine Pre.setB (t := 39) (c := true) rfl (rfl) ?_
    refine l_e rfl ?_
    refine e_call_00 (awake_spec) rfl rfl rfl Try.call14 rfl (fun _ _ => trivial) ?_
    intro _ _
    refine l_q rfl (q_pick_t rfl rfl rfl) rfl rfl ?_
    refine l_q rfl (q_assign rfl rfl) rfl rfl ?_
    refine l_nil ?_
    refine k_then ?_
    refine c_ret ?_
    refine k_then_ret ?_
    refine r_one rfl rfl ?_
    exact fun _ h => ⟨(), rfl, trivial, h.nothing⟩
  · simp only [decide_eq_true_eq, decide_eq_false_iff_not, Bool.not_eq_true', Bool.not_eq_false'] at hlen
    refine c_false rfl ?_
    refine c_skip ?_
    refine k_then ?_
    refine c_seq ?_
    refine c_region _ rfl ?_
    refine l_q rfl (q_move rfl rfl) rfl rfl ?_
    refine l_e rfl ?_
    refine e_makeSlice encB false k rfl rfl rfl Try.underlying49 info4 rfl rfl rfl rfl rfl rfl rfl (by simp only [byt4]; omega) (by omega) ?_
    intro vg
    refine l_q rfl (q_assign rfl rfl) rfl rfl ?_
    refine l_nil ?_
    refine k_then ?_
    refine c_seq ?_
    refine c_region _ rfl ?_
    refine l_q rfl (q_move rfl rfl) rfl rfl ?_
    refine l_q rfl (q_assign rfl rfl) rfl rfl ?_
    refine l_nil ?_
    refine k_then ?_
    refine c_seq ?_
    refine c_seq ?_
    refine c_region _ rfl ?_
    refine l_q rfl (q_assign rfl rfl) rfl rfl ?_
    refine l_nil ?_
    refine k_then ?_
    refine c_block ?_
    refine c_loop4 (fun (i : Nat) (m : Tab) (g : List Bool) (left : Nat) => [(1, va), (5, .int .i64 (k : Int)), (6, .pointer (some ⟨b, 0, none⟩)), (8, vg), (9, .int .i64 (left : Int)), (10, .int .i64 (i : Int))]) (fun (i : Nat) (m : Tab) (g : List Bool) (left : Nat) => St w [] [rowE vg 4 encB g, cellsE b 55 (tabC m)]) (fun (i : Nat) (m : Tab) (g : List Bool) (left : Nat) => i ≤ l.length ∧ Env2 k i m g left) (fun (i : Nat) (m : Tab) (g : List Bool) (left : Nat) => l.length - i) (0) (newM k) (List.replicate k false) (k) ⟨Nat.zero_le _, env0 h1 h8⟩ (Sub.cons rfl (Sub.cons rfl (Sub.cons rfl (Sub.cons rfl (Sub.cons rfl (Sub.cons rfl (Sub.nil))))))) (fun _ h => h) ?_
    intro i m g left hp
    refine c_seq ?_
    refine c_seq ?_
    obtain ⟨hi, hv⟩ := hp
    refine c_region _ rfl ?_
    refine l_q rfl (q_move rfl rfl) rfl rfl ?_
    refine l_q rfl (q_move rfl rfl) rfl rfl ?_
    refine l_q rfl (q_lenV rfl Try.underlying48 rfl (fun _ h => hl.keep h (by simp [dom]))) rfl rfl ?_
    refine l_q rfl (q_lss rfl rfl rfl) rfl rfl ?_
    refine l_nil ?_
    refine k_then ?_
    refine Pre.caseB 48 rfl (fun hlt => ?_) (fun hlt => ?_)
    · simp only [decide_eq_true_eq, decide_eq_false_iff_not, Bool.not_eq_true', Bool.not_eq_false'] at hlt
      obtain ⟨x, hx⟩ : ∃ x, l[i]? = some x := ⟨_, List.getElem?_eq_getElem (by omega)⟩
      have hb := hbd x (List.mem_of_getElem? hx)
      obtain ⟨xx, rfl⟩ := Int.eq_ofNat_of_zero_le hb.1
      obtain ⟨jj, hjj⟩ : ∃ jj, jj = xx % k := ⟨_, rfl⟩
      have hjk : jj < k := by rw [hjj]; exact Nat.mod_lt _ h1
      have hg := hv.gl
      have hjI : (xx : Int) % (k : Int) = (jj : Int) := by rw [hjj]; exact (Int.natCast_emod xx k).symm
      obtain ⟨d2, hv2, hl1⟩ := env_step hv hjk
      have hlb : left ≤ 8 := by have h1 := hv.left; have h2 := runM_len m; have h3 := hv.n; omega
      have k1 := turn_ok hv.ok jj 2
      have t1 : turnM (turnM m jj 2) jj 0 = turnM m jj 2 := turn_dead d2
      have t2 : turnM (turnM m jj 2) jj 1 = turnM m jj 2 := turn_dead d2
      refine c_true rfl ?_
      refine c_skip ?_
      refine k_then ?_
      refine c_seq ?_
      refine c_block ?_
      refine c_seq ?_
      refine c_region _ rfl ?_
      refine l_q rfl (q_move rfl rfl) rfl rfl ?_
      refine l_q rfl (q_move rfl rfl) rfl rfl ?_
      refine l_q rfl (q_indexV i rfl Try.underlying48 Try.sizeOf5 rfl (fun _ h => hl.keep h (by simp [dom])) rfl rfl (by omega)) rfl rfl ?_
      refine l_q rfl (q_loadV i 0 rfl Try.isAgg5 rfl rfl (fun _ h => hl.keep h (by simp [dom])) hx rfl) rfl rfl ?_
      refine l_q rfl (q_conv_in rfl Try.underlying5 Try.underlying3 rfl (by first | rfl | (simp only [IntKind.wrap]; omega) | exact wrap64_in (by omega))) rfl rfl ?_
      refine l_q rfl (q_move rfl rfl) rfl rfl ?_
      refine l_q rfl (q_rem_nn rfl rfl rfl (by omega) (by omega)) rfl rfl ?_
      refine l_q rfl (q_assign rfl rfl) rfl rfl ?_
      refine l_nil ?_
      refine k_then ?_
      refine c_seq ?_
      refine c_region _ rfl ?_
      refine Pre.setV (t := 11) (c := .int .i64 (jj : Int)) rfl (congrArg (Value.int .i64) hjI) ?_
      refine l_q rfl (q_move rfl rfl) rfl rfl ?_
      refine l_q rfl (q_move rfl rfl) rfl rfl ?_
      refine pull1 ?_
      refine l_e rfl ?_
      refine e_call_11 (end_spec hv.ok b jj) rfl rfl rfl Try.call20 rfl (fun _ _ => trivial) ?_
      intro _ _
      refine l_nil ?_
      refine k_then ?_
      refine c_seq ?_
      refine c_region _ rfl ?_
      refine l_q rfl (q_move rfl rfl) rfl rfl ?_
      refine l_q rfl (q_move rfl rfl) rfl rfl ?_
      refine l_e rfl ?_
      refine e_call_11 (wake_spec k1 b jj) rfl rfl rfl Try.call18 rfl (fun _ _ => trivial) ?_
      intro _ _
      refine cells_eq (congrArg tabC t1) ?_
      refine l_nil ?_
      refine k_then ?_
      refine c_seq ?_
      refine c_region _ rfl ?_
      refine l_q rfl (q_move rfl rfl) rfl rfl ?_
      refine l_q rfl (q_move rfl rfl) rfl rfl ?_
      refine l_e rfl ?_
      refine e_call_11 (block_spec k1 b jj) rfl rfl rfl Try.call16 rfl (fun _ _ => trivial) ?_
      intro _ _
      refine cells_eq (congrArg tabC t2) ?_
      refine l_nil ?_
      refine k_then ?_
      refine c_seq ?_
      refine c_region _ rfl ?_
      refine l_q rfl (q_move rfl rfl) rfl rfl ?_
      refine l_q rfl (q_move rfl rfl) rfl rfl ?_
      refine l_e rfl ?_
      refine e_call_11 (wake_spec k1 b jj) rfl rfl rfl Try.call18 rfl (fun _ _ => trivial) ?_
      intro _ _
      refine cells_eq (congrArg tabC t1) ?_
      refine l_nil ?_
      refine k_then ?_
      refine c_seq ?_
      refine c_seq ?_
      refine c_region _ rfl ?_
      refine l_q rfl (q_move rfl rfl) rfl rfl ?_
      refine l_q rfl (q_move rfl rfl) rfl rfl ?_
      refine l_q rfl (q_indexV jj rfl Try.underlying49 Try.sizeOf4 rfl (fun _ h => h.rd 1 rfl) rfl rfl (by omega)) rfl rfl ?_
      refine l_q rfl (q_loadV jj 0 rfl Try.isAgg4 rfl rfl (fun _ h => h.rd 1 rfl) (gb (by rw [hg]; exact hjk)) rfl) rfl rfl ?_
      refine l_q rfl (q_not rfl rfl) rfl rfl ?_
      refine l_nil ?_
      refine k_then ?_
      refine pull1 ?_
      refine pull1 ?_
      refine c_meet1 (fun (lf : Nat) => [(1, va), (5, .int .i64 (k : Int)), (6, .pointer (some ⟨b, 0, none⟩)), (8, vg), (9, .int .i64 (lf : Int)), (10, .int .i64 (i : Int)), (11, .int .i64 (jj : Int))]) (fun (lf : Nat) => St w [] [cellsE b 55 (tabC (turnM m jj 2)), rowE vg 4 encB g]) (fun (lf : Nat) => lf = if g.getD jj false then left else left - 1) ?_ ?_
      · refine Pre.caseB 74 rfl (fun hgj => ?_) (fun hgj => ?_)
        · simp only [Bool.not_eq_true', Bool.not_eq_false'] at hgj
          have hl2 := hl1 hgj
          refine c_true rfl ?_
          refine c_region _ rfl ?_
          refine l_q rfl (q_move rfl rfl) rfl rfl ?_
          refine l_q rfl (q_sub64 rfl rfl rfl (by omega)) rfl rfl ?_
          refine l_q rfl (q_assign rfl rfl) rfl rfl ?_
          refine l_nil ?_
          exact k_meet (left - 1) (by rw [hgj]; rfl) (Sub.cons rfl (Sub.cons rfl (Sub.cons rfl (Sub.cons rfl (Sub.consE rfl (congrArg (Value.int .i64) (by omega)) (Sub.cons rfl (Sub.cons rfl Sub.nil))))))) (fun _ h => h)
        · simp only [Bool.not_eq_true', Bool.not_eq_false'] at hgj
          refine c_false rfl ?_
          refine c_skip ?_
          exact k_meet (left) (by rw [hgj]; rfl) (Sub.cons rfl (Sub.cons rfl (Sub.cons rfl (Sub.cons rfl (Sub.cons rfl (Sub.cons rfl (Sub.cons rfl (Sub.nil)))))))) (fun _ h => h)
      · intro lf hlf
        refine c_seq ?_
        rw [← hlf] at hv2
        refine c_region _ rfl ?_
        refine l_q rfl (q_move rfl rfl) rfl rfl ?_
        refine l_q rfl (q_move rfl rfl) rfl rfl ?_
        refine l_q rfl (q_indexV jj rfl Try.underlying49 Try.sizeOf4 rfl (fun _ h => h.rd 1 rfl) rfl rfl (by omega)) rfl rfl ?_
        refine pull1 ?_
        refine l_e rfl ?_
        refine e_storeV jj 0 (true) rfl rfl Try.sizeOf4 rfl rfl rfl (gb (by rw [hg]; exact hjk)) (by decide) rfl ?_
        refine l_nil ?_
        refine k_then ?_
        refine c_seq ?_
        refine c_region _ rfl ?_
        refine l_q rfl (q_move rfl rfl) rfl rfl ?_
        refine l_q rfl (q_move rfl rfl) rfl rfl ?_
        have hwho := env_who hv2 h1 (i : Int)
        have hv3 := env_pick hv2 (i : Int)
        have hgl2 := hv2.gl
        have hw1 := hwho.1
        have hend := env_end hv3
        have hleft := hv2.left
        have hleft3 := hv3.left
        have hne : (decide (runM (turnM m jj 2) ≠ []) == decide ((0 : Int) < (lf : Int))) = true := by rw [beq_iff_eq, Bool.eq_iff_iff, decide_eq_true_eq, decide_eq_true_eq, ← List.length_pos_iff]; omega
        refine pull1 ?_
        refine l_e rfl ?_
        refine e_call_11 (pick_spec hv2.ok (by omega) b (i : Int)) rfl rfl rfl Try.call10 rfl (fun _ _ => trivial) ?_
        intro _ _
        refine l_q rfl (q_move rfl rfl) rfl rfl ?_
        refine l_q rfl (q_extract rfl rfl rfl) rfl rfl ?_
        refine l_q rfl (q_extract rfl rfl rfl) rfl rfl ?_
        refine l_q rfl (q_assign rfl rfl) rfl rfl ?_
        refine l_q rfl (q_assign rfl rfl) rfl rfl ?_
        refine l_nil ?_
        refine k_then ?_
        refine c_seq ?_
        refine c_region _ rfl ?_
        refine l_q rfl (q_move rfl rfl) rfl rfl ?_
        refine l_q rfl (q_move rfl rfl) rfl rfl ?_
        refine l_q rfl (q_gtr rfl rfl rfl) rfl rfl ?_
        refine l_q rfl (q_neb rfl Try.underlying4 rfl rfl) rfl rfl ?_
        refine l_q rfl (q_move rfl rfl) rfl rfl ?_
        refine Pre.setB (t := 90) (c := false) rfl (by rw [hne]; rfl) ?_
        refine l_q rfl (q_move rfl rfl) rfl rfl ?_
        refine l_e rfl ?_
        refine e_call_12 (runnable_spec hv3.ok b) rfl rfl rfl Try.call24 rfl (fun _ _ => trivial) ?_
        intro vr _
        refine l_q rfl (q_lenV rfl Try.underlying42 rfl (fun _ h => h.rd 0 rfl)) rfl rfl ?_
        refine l_q rfl (q_move rfl rfl) rfl rfl ?_
        refine l_q rfl (q_neq rfl rfl rfl) rfl rfl ?_
        refine l_q rfl (q_pick_f rfl rfl rfl) rfl rfl ?_
        refine l_q rfl (q_move rfl rfl) rfl rfl ?_
        refine Pre.setB (t := 97) (c := false) rfl (by rw [nints_len, ← hleft3]; simp) ?_
        refine l_q rfl (q_move rfl rfl) rfl rfl ?_
        refine pull1 ?_
        refine l_e rfl ?_
        refine e_call_11 (ended_spec hv3.ok b) rfl rfl rfl Try.call26 rfl (fun _ _ => trivial) ?_
        intro _ _
        refine l_q rfl (q_move rfl rfl) rfl rfl ?_
        refine l_q rfl (q_eql rfl rfl rfl) rfl rfl ?_
        refine l_q rfl (q_neb rfl Try.underlying4 rfl rfl) rfl rfl ?_
        refine l_q rfl (q_pick_f rfl rfl rfl) rfl rfl ?_
        refine l_q rfl (q_move rfl rfl) rfl rfl ?_
        refine Pre.setB (t := 104) (c := false) rfl (by rw [hend, Bool.not_eq_false', beq_iff_eq, Bool.eq_iff_iff, decide_eq_true_eq, decide_eq_true_eq]; omega) ?_
        refine l_q rfl (q_move rfl rfl) rfl rfl ?_
        refine l_q rfl (q_lss rfl rfl rfl) rfl rfl ?_
        refine l_q rfl (q_pick_f rfl rfl rfl) rfl rfl ?_
        refine l_q rfl (q_move rfl rfl) rfl rfl ?_
        refine Pre.setB (t := 108) (c := false) rfl (decide_eq_false (by omega)) ?_
        refine l_q rfl (q_move rfl rfl) rfl rfl ?_
        refine l_q rfl (q_move rfl rfl) rfl rfl ?_
        refine l_q rfl (q_geq rfl rfl rfl) rfl rfl ?_
        refine l_q rfl (q_pick_f rfl rfl rfl) rfl rfl ?_
        refine l_q rfl (q_move rfl rfl) rfl rfl ?_
        refine Pre.setB (t := 113) (c := false) rfl (decide_eq_false (by have := hwho.1; omega)) ?_
        refine l_q rfl (q_move rfl rfl) rfl rfl ?_
        refine l_q rfl (q_move rfl rfl) rfl rfl ?_
        refine Pre.caseB 115 rfl (fun hrn => ?_) (fun hrn => ?_)
        · simp only [decide_eq_true_eq, decide_eq_false_iff_not] at hrn
          have hgw := hwho.2 hrn
          refine l_q rfl (q_move rfl rfl) rfl rfl ?_
          refine l_q rfl (q_move rfl rfl) rfl rfl ?_
          refine l_q rfl (q_indexV (whoM (turnM m jj 2) i) rfl Try.underlying49 Try.sizeOf4 rfl (fun _ h => h.rd 2 rfl) rfl rfl (by omega)) rfl rfl ?_
          refine l_q rfl (q_loadV (whoM (turnM m jj 2) i) 0 rfl Try.isAgg4 rfl rfl (fun _ h => h.rd 2 rfl) (gb (by rw [hv2.gl]; exact hwho.1)) rfl) rfl rfl ?_
          refine l_q rfl (q_pick_t rfl rfl rfl) rfl rfl ?_
          refine l_q rfl (q_pick_f rfl rfl rfl) rfl rfl ?_
          refine l_nil ?_
          refine k_then ?_
          refine Pre.setB (t := 121) (c := false) rfl (hgw) ?_
          refine c_false rfl ?_
          refine c_skip ?_
          refine k_block ?_
          refine k_then ?_
          refine c_region _ rfl ?_
          refine l_q rfl (q_move rfl rfl) rfl rfl ?_
          refine l_q rfl (q_inc rfl rfl rfl (by omega)) rfl rfl ?_
          refine l_q rfl (q_assign rfl rfl) rfl rfl ?_
          refine l_nil ?_
          refine pull1 ?_
          refine drop0 ?_
          refine pull1 ?_
          exact k_round ((i + 1, pickM (turnM m jj 2) i, g.set jj true, lf)) (by dsimp only; omega) ⟨by dsimp only; omega, hv3⟩ (Sub.cons rfl (Sub.cons rfl (Sub.cons rfl (Sub.cons rfl (Sub.cons rfl (Sub.cons rfl (Sub.nil))))))) (fun _ h => h)
        · simp only [decide_eq_true_eq, decide_eq_false_iff_not] at hrn
          refine l_not rfl rfl rfl ?_
          refine l_not rfl rfl rfl ?_
          refine l_not rfl rfl rfl ?_
          refine l_not rfl rfl rfl ?_
          refine l_q rfl (q_pick_f rfl rfl rfl) rfl rfl ?_
          refine l_q rfl (q_pick_f rfl rfl rfl) rfl rfl ?_
          refine l_nil ?_
          refine k_then ?_
          refine c_false rfl ?_
          refine c_skip ?_
          refine k_block ?_
          refine k_then ?_
          refine c_region _ rfl ?_
          refine l_q rfl (q_move rfl rfl) rfl rfl ?_
          refine l_q rfl (q_inc rfl rfl rfl (by omega)) rfl rfl ?_
          refine l_q rfl (q_assign rfl rfl) rfl rfl ?_
          refine l_nil ?_
          refine pull1 ?_
          refine drop0 ?_
          refine pull1 ?_
          exact k_round ((i + 1, pickM (turnM m jj 2) i, g.set jj true, lf)) (by dsimp only; omega) ⟨by dsimp only; omega, hv3⟩ (Sub.cons rfl (Sub.cons rfl (Sub.cons rfl (Sub.cons rfl (Sub.cons rfl (Sub.cons rfl (Sub.nil))))))) (fun _ h => h)
    · simp only [decide_eq_true_eq, decide_eq_false_iff_not, Bool.not_eq_true', Bool.not_eq_false'] at hlt
      refine c_false rfl ?_
      refine c_exit ?_
      refine k_then_exit ?_
      refine k_then_exit ?_
      refine k_block_exit ?_
      refine k_then ?_
      refine c_seq ?_
      refine c_region _ rfl ?_
      refine l_e rfl ?_
      refine e_call_00 (awake_spec) rfl rfl rfl Try.call14 rfl (fun _ _ => trivial) ?_
      intro _ _
      refine l_q rfl (q_assign rfl rfl) rfl rfl ?_
      refine l_nil ?_
      refine k_then ?_
      refine c_ret ?_
      refine r_one rfl rfl ?_
      exact fun _ h => ⟨(), rfl, trivial, h.nothing⟩
theorem schedEnds_walk (w : World) (a0 : Int) (w0 : (Lit.int .i64 a0).wf = true) (A1 : Option Addr) (c1 : Nat) (z1 : List Int) (rd1 : Rd w w.heap.size A1 (z1.map (.int .u8))) (l1 : z1.length ≤ c1) (m1 : c1 ≤ maxLen) (w1 : ∀ z ∈ z1, (Lit.int .u8 z).wf = true) :
    Calls Try.prog 6 #[.int .i64 a0, .slice A1 z1.length c1] w fun e w' => e = .returned (.bool true) ∧ Below w.heap.size w w' := by
  have h := flat_one' (encI .u8) (Value.int .u8) (fun _ => rfl) z1
  rw [← h] at rd1
  exact con_walk (ends_spec a0 z1 (fun z hz => wf_u8 (w1 z hz))) (rdv_of rd1 l1)
end Go.Proofs.Ytjanmpghcigigaa
