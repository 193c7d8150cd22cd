/- SchedStarves, walked -/
import Derived.Test.YtjanmpghcigigaaP
import Derived.Test.YtjanmpghcigigaaS9
set_option linter.unusedVariables false
set_option linter.unusedSimpArgs false
namespace Go.Proofs.Ytjanmpghcigigaa
open Go.Sep Go.RowKit

/-- Behind i picks by turns of the first two of three. -/
structure Stv (i : Nat) (m : Tab) : Prop where
  n : m.n = 3
  ok : m.Ok (9 * i)
  st : ∀ j, j < 3 → m.st.getD j 0 = 0
  w2 : m.wt.getD 2 0 = i
  wo : m.wt.getD (1 - i % 2) 0 = 0
  worst : m.worst = i
  pk : m.pk.getD 2 0 = 0
theorem stv0 : Stv 0 (newM 3) := ⟨rfl, new_ok (by decide) (by decide), fun j _ => rep_get 3 j, rfl, rfl, rfl, rfl⟩
theorem run3 {m : Tab} (h : m.n = 3) (hs : ∀ j, j < 3 → m.st.getD j 0 = 0) : runM m = [0, 1, 2] := by
  rw [run_all (by rw [h]; exact hs), h]; rfl
theorem stv_step {i : Nat} {m : Tab} (h : Stv i m) : whoM m ((i : Int) % 2) = i % 2 ∧ Stv (i + 1) (pickM m ((i : Int) % 2)) := by
  have hr := run3 h.n h.st
  have hr0 : runM m ≠ [] := by rw [hr]; simp
  have hw : whoM m ((i : Int) % 2) = i % 2 := by
    unfold whoM
    rw [hr]
    have e : (((i : Int) % 2) % (([0, 1, 2] : List Nat).length : Int)).toNat = i % 2 := by
      show (((i : Int) % 2) % 3).toNat = _
      omega
    rw [e]
    rcases Nat.mod_two_eq_zero_or_one i with e2 | e2 <;> rw [e2] <;> rfl
  refine ⟨hw, (pick_n m _).trans h.n, (pick_ok h.ok _).mono (by omega), fun j hj => by rw [pick_st hr0]; exact h.st j hj, ?_, ?_, ?_, ?_⟩
  · rw [pick_wt h.ok hr0 2 (by rw [h.n]; omega), hw, if_neg (by omega), if_pos (h.st 2 (by omega)), h.w2]; omega
  · rw [pick_wt h.ok hr0 _ (by rw [h.n]; omega), hw, if_pos (by omega)]
  · have h1 : (pickM m ((i : Int) % 2)).worst ≤ (i : Int) + 1 := (pick_worst h.ok hr0 _).2 ⟨by rw [h.worst]; omega, fun j hj _ hjt => by
      rw [h.n] at hj
      rw [hw] at hjt
      by_cases e : j = 2
      · subst e; rw [h.w2]; exact Int.le_refl _
      · have : j = 1 - i % 2 := by omega
        rw [this, h.wo]; omega⟩
    have h2 : ¬ (pickM m ((i : Int) % 2)).worst ≤ (i : Int) := fun h3 => by
      have := ((pick_worst h.ok hr0 _).1 h3).2 2 (by rw [h.n]; omega) (h.st 2 (by omega)) (by rw [hw]; omega)
      rw [h.w2] at this
      omega
    omega
  · rw [pick_pk h.ok hr0 2 (by rw [h.n]; omega), hw, if_neg (by omega)]; exact h.pk
/-- Then the third is blocked and woken, the others are blocked. -/
def stvM (m : Tab) : Tab := turnM (turnM (turnM (turnM (turnM m 2 1) 2 0) 2 0) 0 1) 1 1
theorem stv_end {i : Nat} {m : Tab} (h : Stv i m) (p : Int) : runM (stvM m) = [2] ∧ whoM (stvM m) p = 2 ∧ (pickM (stvM m) p).pk.getD 2 0 = 1 ∧ (pickM (stvM m) p).wt.getD 2 0 = 0 ∧ runM (turnM (pickM (stvM m) p) 2 1) = [] := by
  have k1 := turn_ok h.ok 2 1
  have n1 := turn_n m 2 1
  have k2 := turn_ok k1 2 0
  have n2 := turn_n (turnM m 2 1) 2 0
  have k3 := turn_ok k2 2 0
  have n3 := turn_n (turnM (turnM m 2 1) 2 0) 2 0
  have k4 := turn_ok k3 0 1
  have n4 := turn_n (turnM (turnM (turnM m 2 1) 2 0) 2 0) 0 1
  have k5 := turn_ok k4 1 1
  have n5 := turn_n (turnM (turnM (turnM (turnM m 2 1) 2 0) 2 0) 0 1) 1 1
  have s1 := fun j => turn_st (z := 2) h.ok 2 1 j (by rw [h.n]; omega)
  have s2 := fun j => turn_st (z := 2) k1 2 0 j (by rw [n1, h.n]; omega)
  have s3 := fun j => turn_st (z := 2) k2 2 0 j (by rw [n2, n1, h.n]; omega)
  have s4 := fun j => turn_st (z := 0) k3 0 1 j (by rw [n3, n2, n1, h.n]; omega)
  have s5 := fun j => turn_st (z := 1) k4 1 1 j (by rw [n4, n3, n2, n1, h.n]; omega)
  have z0 := h.st 0 (by omega)
  have z1 := h.st 1 (by omega)
  have z2 := h.st 2 (by omega)
  have a1 : (turnM m 2 1).st.getD 2 0 = 1 := by rw [s1 2, if_pos ⟨rfl, by rw [z2]; decide⟩]
  have a2 : (turnM (turnM m 2 1) 2 0).st.getD 2 0 = 0 := by rw [s2 2, if_pos ⟨rfl, by rw [a1]; decide⟩]
  have a3 : (turnM (turnM (turnM m 2 1) 2 0) 2 0).st.getD 2 0 = 0 := by rw [s3 2, if_pos ⟨rfl, by rw [a2]; decide⟩]
  have b3 : ∀ j, j < 2 → (turnM (turnM (turnM m 2 1) 2 0) 2 0).st.getD j 0 = 0 := fun j hj => by
    rw [s3 j, if_neg (fun x => by have := x.1; omega), s2 j, if_neg (fun x => by have := x.1; omega), s1 j, if_neg (fun x => by have := x.1; omega)]
    exact h.st j (by omega)
  have c0 : (stvM m).st.getD 0 0 = 1 := by
    refine (s5 0).trans ?_
    rw [if_neg (fun x => by have := x.1; omega)]
    refine (s4 0).trans ?_
    rw [if_pos ⟨rfl, by rw [b3 0 (by omega)]; decide⟩]
  have c1 : (stvM m).st.getD 1 0 = 1 := by
    refine (s5 1).trans ?_
    rw [if_pos ⟨rfl, by rw [s4 1, if_neg (fun x => by have := x.1; omega), b3 1 (by omega)]; decide⟩]
  have c2 : (stvM m).st.getD 2 0 = 0 := by
    refine (s5 2).trans ?_
    rw [if_neg (fun x => by have := x.1; omega)]
    refine (s4 2).trans ?_
    rw [if_neg (fun x => by have := x.1; omega)]
    exact a3
  have hk : (stvM m).Ok (9 * i) := k5
  have hn : (stvM m).n = 3 := by show (turnM _ _ _).n = 3; rw [n5, n4, n3, n2, n1, h.n]
  have hp : (stvM m).pk.getD 2 0 = 0 := by
    unfold stvM; rw [turn_pk, turn_pk, turn_pk, turn_pk, turn_pk]; exact h.pk
  generalize stvM m = M at *
  have hr : runM M = [2] := by
    unfold runM
    rw [hn]
    simp only [show List.range 3 = [0, 1, 2] from rfl, List.filter_cons, List.filter_nil, c0, c1, c2]
    rfl
  have hr0 : runM M ≠ [] := by rw [hr]; simp
  have hw : whoM M p = 2 := by
    unfold whoM
    rw [hr]
    have : (p % (([2] : List Nat).length : Int)).toNat = 0 := by show (p % 1).toNat = 0; omega
    rw [this]; rfl
  refine ⟨hr, hw, ?_, ?_, ?_⟩
  · rw [pick_pk hk hr0 2 (by omega), hw, if_pos rfl, hp]; rfl
  · rw [pick_wt hk hr0 2 (by omega), hw, if_pos rfl]
  · have k6 := pick_ok hk p
    have n6 := pick_n M p
    have s6 := fun j => turn_st (z := 2) k6 2 1 j (by omega)
    have e6 : (pickM M p).st = M.st := pick_st hr0
    unfold runM
    rw [turn_n, n6, hn]
    have d0 : (turnM (pickM M p) 2 1).st.getD 0 0 = 1 := by rw [s6 0, if_neg (fun x => by have := x.1; omega), e6, c0]
    have d1 : (turnM (pickM M p) 2 1).st.getD 1 0 = 1 := by rw [s6 1, if_neg (fun x => by have := x.1; omega), e6, c1]
    have d2 : (turnM (pickM M p) 2 1).st.getD 2 0 = 1 := by rw [s6 2, if_pos ⟨rfl, by rw [e6, c2]; decide⟩]
    simp only [show List.range 3 = [0, 1, 2] from rfl, List.filter_cons, List.filter_nil]
    rw [show (turnM (pickM M p) 2 1).st.getD 0 0 = 1 from d0, show (turnM (pickM M p) 2 1).st.getD 1 0 = 1 from d1, show (turnM (pickM M p) 2 1).st.getD 2 0 = 1 from d2]
    rfl

set_option maxRecDepth 100000 in
set_option maxHeartbeats 1000000 in
theorem starves_spec (a : Nat) (ha : a ≤ 255) (p : Int) (hp : (Lit.int .i64 p).wf = true) : Con Try.prog 5 [.int .u8 (a : Int), .int .i64 p] (fun _ => True) [] (fun _ : Unit => .bool true) (fun _ => True) (fun _ => []) := by
  intro w hl hH
  refine enter (n := 117) (vs := [.int .u8 (a : Int), .int .i64 p]) (St w [] []) Try.func5 rfl rfl rfl (St.init hH) ?_
  refine c_seq ?_
  refine c_region _ rfl ?_
  refine l_q rfl (q_assign rfl rfl) rfl rfl ?_
  refine l_nil ?_
  refine k_then ?_
  refine c_seq ?_
  refine c_region _ rfl ?_
  refine l_e rfl ?_
  refine e_call_01 (new_yes (n := 3) (by decide) (by decide)) rfl rfl rfl Try.call9 rfl (fun _ _ => trivial) ?_
  intro b _
  refine l_q rfl (q_move rfl rfl) rfl rfl ?_
  refine l_q rfl (q_extract rfl rfl rfl) rfl rfl ?_
  refine l_q rfl (q_extract rfl rfl rfl) rfl rfl ?_
  refine l_q rfl (q_assign rfl rfl) rfl rfl ?_
  refine l_q rfl (q_assign rfl rfl) rfl rfl ?_
  refine l_nil ?_
  refine k_then ?_
  refine c_seq ?_
  refine c_seq ?_
  refine c_region _ rfl ?_
  refine l_q rfl (q_move rfl rfl) rfl rfl ?_
  refine l_q rfl (q_neq rfl rfl rfl) rfl rfl ?_
  refine l_q rfl (q_move rfl rfl) rfl rfl ?_
  refine Pre.setB (t := 21) (c := false) rfl (rfl) ?_
  refine l_q rfl (q_move rfl rfl) rfl rfl ?_
  refine l_q rfl (q_eqp rfl Try.underlying24 rfl rfl) rfl rfl ?_
  refine l_q rfl (q_pick_f rfl rfl rfl) rfl rfl ?_
  refine l_nil ?_
  refine k_then ?_
  refine Pre.setB (t := 24) (c := false) rfl (rfl) ?_
  refine c_false rfl ?_
  refine c_skip ?_
  refine k_then ?_
  refine c_seq ?_
  refine c_region _ rfl ?_
  refine l_q rfl (q_move rfl rfl) rfl rfl ?_
  refine l_q rfl (q_rem_nn rfl rfl rfl (by omega) (by omega)) rfl rfl ?_
  refine l_q rfl (q_conv_in rfl Try.underlying5 Try.underlying3 rfl (by first | rfl | (simp only [IntKind.wrap]; omega) | exact wrap64_in (by omega))) rfl rfl ?_
  refine l_q rfl (q_assign rfl rfl) rfl rfl ?_
  refine l_nil ?_
  refine k_then ?_
  refine c_seq ?_
  refine c_seq ?_
  refine c_region _ rfl ?_
  refine l_q rfl (q_assign rfl rfl) rfl rfl ?_
  refine l_nil ?_
  refine k_then ?_
  refine c_block ?_
  refine c_loop2 (fun (i : Nat) (m : Tab) => [(1, .int .i64 p), (5, .pointer (some ⟨b, 0, none⟩)), (7, .int .i64 ((a % 100 : Nat) : Int)), (8, .int .i64 (i : Int))]) (fun (i : Nat) (m : Tab) => St w [] [cellsE b 55 (tabC m)]) (fun (i : Nat) (m : Tab) => i ≤ a % 100 ∧ Stv i m) (fun (i : Nat) (m : Tab) => a % 100 - i) (0) (newM 3) ⟨Nat.zero_le _, stv0⟩ (Sub.cons rfl (Sub.cons rfl (Sub.consE rfl (congrArg (Value.int .i64) (by omega)) (Sub.cons rfl Sub.nil)))) (fun _ h => h) ?_
  intro i m hp
  refine c_seq ?_
  refine c_seq ?_
  obtain ⟨hi, hv⟩ := hp
  refine c_region _ rfl ?_
  refine l_q rfl (q_move rfl rfl) rfl rfl ?_
  refine l_q rfl (q_move rfl rfl) rfl rfl ?_
  refine l_q rfl (q_lss rfl rfl rfl) rfl rfl ?_
  refine l_nil ?_
  refine k_then ?_
  refine Pre.caseB 30 rfl (fun hlt => ?_) (fun hlt => ?_)
  · simp only [decide_eq_true_eq, decide_eq_false_iff_not, Bool.not_eq_true', Bool.not_eq_false'] at hlt
    obtain ⟨hwho, hv2⟩ := stv_step hv
    have hrn := run3 hv.n hv.st
    refine c_true rfl ?_
    refine c_skip ?_
    refine k_then ?_
    refine c_seq ?_
    refine c_block ?_
    refine c_seq ?_
    refine c_region _ rfl ?_
    refine l_q rfl (q_move rfl rfl) rfl rfl ?_
    refine l_q rfl (q_move rfl rfl) rfl rfl ?_
    refine l_q rfl (q_rem_nn rfl rfl rfl (by omega) (by omega)) rfl rfl ?_
    refine l_e rfl ?_
    refine e_call_11 (pick_spec hv.ok (by omega) b ((i : Int) % 2)) rfl rfl rfl Try.call10 rfl (fun _ _ => trivial) ?_
    intro _ _
    refine l_q rfl (q_move rfl rfl) rfl rfl ?_
    refine l_q rfl (q_extract rfl rfl rfl) rfl rfl ?_
    refine l_q rfl (q_extract rfl rfl rfl) rfl rfl ?_
    refine l_q rfl (q_assign rfl rfl) rfl rfl ?_
    refine l_q rfl (q_assign rfl rfl) rfl rfl ?_
    refine l_nil ?_
    refine k_then ?_
    refine c_seq ?_
    refine c_region _ rfl ?_
    refine l_q rfl (q_move rfl rfl) rfl rfl ?_
    refine l_q rfl (q_not rfl rfl) rfl rfl ?_
    refine l_q rfl (q_move rfl rfl) rfl rfl ?_
    refine Pre.setB (t := 42) (c := false) rfl (by rw [hrn]; rfl) ?_
    refine l_q rfl (q_move rfl rfl) rfl rfl ?_
    refine l_q rfl (q_move rfl rfl) rfl rfl ?_
    refine l_q rfl (q_rem_nn rfl rfl rfl (by omega) (by omega)) rfl rfl ?_
    refine l_q rfl (q_neq rfl rfl rfl) rfl rfl ?_
    refine l_q rfl (q_pick_f rfl rfl rfl) rfl rfl ?_
    refine l_q rfl (q_move rfl rfl) rfl rfl ?_
    refine Pre.setB (t := 48) (c := false) rfl (by rw [hwho]; simp) ?_
    refine l_q rfl (q_move rfl rfl) rfl rfl ?_
    refine l_e rfl ?_
    refine e_call_11 (wait_spec hv2.ok b 2) rfl rfl rfl Try.call12 rfl (fun _ _ => trivial) ?_
    intro _ _
    refine l_q rfl (q_move rfl rfl) rfl rfl ?_
    refine l_q rfl (q_inc rfl rfl rfl (by omega)) rfl rfl ?_
    refine l_q rfl (q_neq rfl rfl rfl) rfl rfl ?_
    refine l_q rfl (q_pick_f rfl rfl rfl) rfl rfl ?_
    refine l_nil ?_
    refine k_then ?_
    refine Pre.setB (t := 54) (c := false) rfl (by rw [if_pos ⟨by omega, by rw [hv2.n]; decide⟩, show (pickM m ((i : Int) % 2)).wt.getD (2 : Int).toNat 0 = _ from hv2.w2]; simp) ?_
    refine c_false rfl ?_
    refine c_skip ?_
    refine k_block ?_
    refine k_then ?_
    refine c_region _ rfl ?_
    refine l_q rfl (q_move rfl rfl) rfl rfl ?_
    refine l_q rfl (q_inc rfl rfl rfl (by omega)) rfl rfl ?_
    refine l_q rfl (q_assign rfl rfl) rfl rfl ?_
    refine l_nil ?_
    exact k_round ((i + 1, pickM m ((i : Int) % 2))) (by dsimp only; omega) ⟨by dsimp only; omega, hv2⟩ (Sub.cons rfl (Sub.cons rfl (Sub.cons rfl (Sub.cons rfl (Sub.nil))))) (fun _ h => h)
  · simp only [decide_eq_true_eq, decide_eq_false_iff_not, Bool.not_eq_true', Bool.not_eq_false'] at hlt
    have him : i = a % 100 := by omega
    have k1 := turn_ok hv.ok 2 1
    have k2 := turn_ok k1 2 0
    have k3 := turn_ok k2 2 0
    have k4 := turn_ok k3 0 1
    have k5 := turn_ok k4 1 1
    have k6 := pick_ok k5 p
    have k7 := turn_ok k6 2 1
    obtain ⟨r1, r2, r3, r4, r5⟩ := stv_end hv p
    unfold stvM at r1 r2 r3 r4 r5
    have n1 := turn_n m 2 1
    have nn : (pickM (turnM (turnM (turnM (turnM (turnM m 2 1) 2 0) 2 0) 0 1) 1 1) p).n = 3 := by rw [pick_n, turn_n, turn_n, turn_n, turn_n, turn_n, hv.n]
    have w21 : (turnM m 2 1).wt.getD 2 0 = 0 := (turn_wt hv.ok 2 1 2 (by rw [hv.n]; omega)).trans (if_pos ⟨rfl, by rw [hv.st 2 (by omega)]; decide, by decide⟩)
    have wo := turn_worst m 2 1
    rw [hv.worst] at wo
    have p7 : pickM (turnM (pickM (turnM (turnM (turnM (turnM (turnM m 2 1) 2 0) 2 0) 0 1) 1 1) p) 2 1) p = turnM (pickM (turnM (turnM (turnM (turnM (turnM m 2 1) 2 0) 2 0) 0 1) 1 1) p) 2 1 := pick_none r5
    refine c_false rfl ?_
    refine c_exit ?_
    refine k_then_exit ?_
    refine k_then_exit ?_
    refine k_block_exit ?_
    refine k_then ?_
    refine c_seq ?_
    refine c_region _ rfl ?_
    refine l_q rfl (q_move rfl rfl) rfl rfl ?_
    refine l_e rfl ?_
    refine e_call_11 (block_spec hv.ok b 2) rfl rfl rfl Try.call16 rfl (fun _ _ => trivial) ?_
    intro _ _
    refine l_nil ?_
    refine k_then ?_
    refine c_seq ?_
    refine c_seq ?_
    refine c_region _ rfl ?_
    refine l_q rfl (q_move rfl rfl) rfl rfl ?_
    refine l_e rfl ?_
    refine e_call_11 (wait_spec k1 b 2) rfl rfl rfl Try.call12 rfl (fun _ _ => trivial) ?_
    intro _ _
    refine l_q rfl (q_neq rfl rfl rfl) rfl rfl ?_
    refine l_q rfl (q_move rfl rfl) rfl rfl ?_
    refine Pre.setB (t := 60) (c := false) rfl (by rw [if_pos ⟨by omega, by rw [n1, hv.n]; decide⟩, show (turnM m 2 1).wt.getD (2 : Int).toNat 0 = 0 from w21]; rfl) ?_
    refine l_q rfl (q_move rfl rfl) rfl rfl ?_
    refine l_e rfl ?_
    refine e_call_11 (worst_spec k1 b) rfl rfl rfl Try.call13 rfl (fun _ _ => trivial) ?_
    intro _ _
    refine l_q rfl (q_move rfl rfl) rfl rfl ?_
    refine l_q rfl (q_lss rfl rfl rfl) rfl rfl ?_
    refine l_q rfl (q_pick_f rfl rfl rfl) rfl rfl ?_
    refine l_q rfl (q_move rfl rfl) rfl rfl ?_
    refine Pre.setB (t := 66) (c := false) rfl (by rw [wo, him]; exact decide_eq_false (by omega)) ?_
    refine l_q rfl (q_move rfl rfl) rfl rfl ?_
    refine l_e rfl ?_
    refine e_call_11 (worst_spec k1 b) rfl rfl rfl Try.call13 rfl (fun _ _ => trivial) ?_
    intro _ _
    refine l_q rfl (q_move rfl rfl) rfl rfl ?_
    refine l_q rfl (q_max rfl rfl rfl) rfl rfl ?_
    refine l_q rfl (q_gtr rfl rfl rfl) rfl rfl ?_
    refine l_q rfl (q_pick_f rfl rfl rfl) rfl rfl ?_
    refine l_nil ?_
    refine k_then ?_
    refine Pre.setB (t := 72) (c := false) rfl (by rw [wo, him]; exact decide_eq_false (by split <;> omega)) ?_
    refine c_false rfl ?_
    refine c_skip ?_
    refine k_then ?_
    refine c_seq ?_
    refine c_region _ rfl ?_
    refine l_q rfl (q_move rfl rfl) rfl rfl ?_
    refine l_e rfl ?_
    refine e_call_11 (wake_spec k1 b 2) rfl rfl rfl Try.call18 rfl (fun _ _ => trivial) ?_
    intro _ _
    refine l_nil ?_
    refine k_then ?_
    refine c_seq ?_
    refine c_region _ rfl ?_
    refine l_q rfl (q_move rfl rfl) rfl rfl ?_
    refine l_e rfl ?_
    refine e_call_11 (wake_spec k2 b 2) rfl rfl rfl Try.call18 rfl (fun _ _ => trivial) ?_
    intro _ _
    refine l_nil ?_
    refine k_then ?_
    refine c_seq ?_
    refine c_region _ rfl ?_
    refine l_q rfl (q_move rfl rfl) rfl rfl ?_
    refine l_e rfl ?_
    refine e_call_11 (block_spec k3 b 0) rfl rfl rfl Try.call16 rfl (fun _ _ => trivial) ?_
    intro _ _
    refine l_nil ?_
    refine k_then ?_
    refine c_seq ?_
    refine c_region _ rfl ?_
    refine l_q rfl (q_move rfl rfl) rfl rfl ?_
    refine l_e rfl ?_
    refine e_call_11 (block_spec k4 b 1) rfl rfl rfl Try.call16 rfl (fun _ _ => trivial) ?_
    intro _ _
    refine l_nil ?_
    refine k_then ?_
    refine c_seq ?_
    refine c_region _ rfl ?_
    refine l_q rfl (q_move rfl rfl) rfl rfl ?_
    refine l_q rfl (q_move rfl rfl) rfl rfl ?_
    refine l_e rfl ?_
    refine e_call_11 (pick_spec k5 (by omega) b p) rfl rfl rfl Try.call10 rfl (fun _ _ => trivial) ?_
    intro _ _
    refine l_q rfl (q_move rfl rfl) rfl rfl ?_
    refine l_q rfl (q_extract rfl rfl rfl) rfl rfl ?_
    refine l_q rfl (q_extract rfl rfl rfl) rfl rfl ?_
    refine l_q rfl (q_assign rfl rfl) rfl rfl ?_
    refine l_q rfl (q_assign rfl rfl) rfl rfl ?_
    refine l_nil ?_
    refine k_then ?_
    refine c_seq ?_
    refine c_region _ rfl ?_
    refine l_q rfl (q_move rfl rfl) rfl rfl ?_
    refine l_e rfl ?_
    refine e_call_11 (block_spec k6 b 2) rfl rfl rfl Try.call16 rfl (fun _ _ => trivial) ?_
    intro _ _
    refine l_nil ?_
    refine k_then ?_
    refine c_seq ?_
    refine c_region _ rfl ?_
    refine l_q rfl (q_move rfl rfl) rfl rfl ?_
    refine l_q rfl (q_move rfl rfl) rfl rfl ?_
    refine l_e rfl ?_
    refine e_call_11 (pick_spec k7 (by omega) b p) rfl rfl rfl Try.call10 rfl (fun _ _ => trivial) ?_
    intro _ _
    refine l_q rfl (q_move rfl rfl) rfl rfl ?_
    refine l_q rfl (q_extract rfl rfl rfl) rfl rfl ?_
    refine l_q rfl (q_extract rfl rfl rfl) rfl rfl ?_
    refine l_q rfl (q_assign rfl rfl) rfl rfl ?_
    refine l_q rfl (q_assign rfl rfl) rfl rfl ?_
    refine l_nil ?_
    refine k_then ?_
    refine c_seq ?_
    refine c_region _ rfl ?_
    refine l_q rfl (q_move rfl rfl) rfl rfl ?_
    refine l_q rfl (q_move rfl rfl) rfl rfl ?_
    refine Pre.setB (t := 96) (c := true) rfl (by rw [r1]; rfl) ?_
    refine l_q rfl (q_move rfl rfl) rfl rfl ?_
    refine l_q rfl (q_eql rfl rfl rfl) rfl rfl ?_
    refine l_q rfl (q_pick_t rfl rfl rfl) rfl rfl ?_
    refine l_q rfl (q_move rfl rfl) rfl rfl ?_
    refine Pre.setB (t := 100) (c := true) rfl (by rw [r2]; rfl) ?_
    refine l_q rfl (q_move rfl rfl) rfl rfl ?_
    refine l_q rfl (q_not rfl rfl) rfl rfl ?_
    refine l_q rfl (q_pick_t rfl rfl rfl) rfl rfl ?_
    refine l_q rfl (q_move rfl rfl) rfl rfl ?_
    refine Pre.setB (t := 104) (c := true) rfl (by rw [r5]; rfl) ?_
    refine l_q rfl (q_move rfl rfl) rfl rfl ?_
    refine l_e rfl ?_
    refine e_call_11 (picks_spec (pick_ok k7 p) b 2) rfl rfl rfl Try.call11 rfl (fun _ _ => trivial) ?_
    intro _ _
    refine l_q rfl (q_eql rfl rfl rfl) rfl rfl ?_
    refine l_q rfl (q_pick_t rfl rfl rfl) rfl rfl ?_
    refine l_q rfl (q_move rfl rfl) rfl rfl ?_
    refine Pre.setB (t := 109) (c := true) rfl (by rw [p7, if_pos ⟨by omega, by rw [turn_n, nn]; decide⟩, turn_pk, show (pickM _ p).pk.getD (2 : Int).toNat 0 = 1 from r3]; rfl) ?_
    refine l_q rfl (q_move rfl rfl) rfl rfl ?_
    refine l_e rfl ?_
    refine e_call_11 (wait_spec (pick_ok k7 p) b 2) rfl rfl rfl Try.call12 rfl (fun _ _ => trivial) ?_
    intro _ _
    refine l_q rfl (q_eql rfl rfl rfl) rfl rfl ?_
    refine l_q rfl (q_pick_t rfl rfl rfl) rfl rfl ?_
    refine l_q rfl (q_move rfl rfl) rfl rfl ?_
    refine Pre.setB (t := 114) (c := true) rfl (by rw [p7, if_pos ⟨by omega, by rw [turn_n, nn]; decide⟩, show (turnM _ 2 1).wt.getD (2 : Int).toNat 0 = 0 from (turn_wt k6 2 1 2 (by rw [nn]; omega)).trans (by rw [r4]; split <;> rfl)]; rfl) ?_
    refine l_e rfl ?_
    refine e_call_00 (awake_spec) rfl rfl rfl Try.call14 rfl (fun _ _ => trivial) ?_
    intro _ _
    refine l_q rfl (q_pick_t rfl rfl rfl) rfl rfl ?_
    refine l_q rfl (q_assign rfl rfl) rfl rfl ?_
    refine l_nil ?_
    refine k_then ?_
    refine c_ret ?_
    refine r_one rfl rfl ?_
    exact fun _ h => ⟨(), rfl, trivial, h.nothing⟩
theorem schedStarves_walk (w : World) (a0 : Int) (w0 : (Lit.int .u8 a0).wf = true) (a1 : Int) (w1 : (Lit.int .i64 a1).wf = true) :
    Calls Try.prog 5 #[.int .u8 a0, .int .i64 a1] w fun e w' => e = .returned (.bool true) ∧ Below w.heap.size w w' := by
  obtain ⟨k, rfl, hk⟩ := u8_nat w0
  exact con_walk (starves_spec k hk a1 w1) trivial
end Go.Proofs.Ytjanmpghcigigaa
