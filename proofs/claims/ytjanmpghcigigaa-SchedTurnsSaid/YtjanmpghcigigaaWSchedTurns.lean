/- SchedTurns, walked -/
import Derived.Test.YtjanmpghcigigaaP
import Derived.Test.YtjanmpghcigigaaS9
set_option linter.unusedVariables false
set_option linter.unusedSimpArgs false
namespace Go.Proofs.Ytjanmpghcigigaa
open Go.Sep Go.RowKit

/-- Which place behind the first a task has, taking turns. -/
def rk (k at0 j : Nat) : Nat := (j + (k - at0)) % k
/-- How often told, how long waiting, behind i turns. -/
def tp (k i r : Nat) : Nat := (i + (k - 1 - r)) / k
def tw (k i r : Nat) : Nat := if i ≤ r then i else (i - 1 - r) % k
structure Trn (k at0 i : Nat) (m : Tab) : Prop where
  n : m.n = k
  ok : m.Ok (9 * i)
  st : ∀ j, j < k → m.st.getD j 0 = 0
  pk : ∀ j, j < k → m.pk.getD j 0 = tp k i (rk k at0 j)
  wt : ∀ j, j < k → m.wt.getD j 0 = tw k i (rk k at0 j)
  worst : m.worst = (min i (k - 1) : Nat)
theorem rk_lt {k at0 j : Nat} (h : 1 ≤ k) : rk k at0 j < k := Nat.mod_lt _ h
theorem tp_le {k i r : Nat} (h1 : 1 ≤ k) (hr : r < k) : i / k ≤ tp k i r ∧ tp k i r ≤ i / k + 1 := by
  unfold tp
  constructor
  · exact Nat.div_le_div_right (by omega)
  · have : (i + (k - 1 - r)) / k ≤ (i + k) / k := Nat.div_le_div_right (by omega)
    rwa [Nat.add_div_right _ h1] at this
theorem tw_le {k i r : Nat} (h1 : 1 ≤ k) (hr : r < k) : tw k i r ≤ k - 1 := by
  unfold tw
  split
  · omega
  · have := Nat.mod_lt (i - 1 - r) h1; omega
theorem mod_eq {k a r : Nat} (hr : r < k) : a % k = r ↔ ∃ q, a = k * q + r := by
  constructor
  · rintro rfl; exact ⟨a / k, (Nat.div_add_mod a k).symm⟩
  · rintro ⟨q, rfl⟩; rw [Nat.mul_add_mod]; exact Nat.mod_eq_of_lt hr
theorem tp_succ {k i r : Nat} (h1 : 1 ≤ k) (hr : r < k) : tp k (i + 1) r = if i % k = r then tp k i r + 1 else tp k i r := by
  unfold tp
  have hk : 0 < k := h1
  by_cases h : i % k = r
  · rw [if_pos h]
    obtain ⟨q, rfl⟩ := (mod_eq hr).1 h
    rw [show k * q + r + 1 + (k - 1 - r) = k * q + k from by omega, show k * q + r + (k - 1 - r) = k * q + (k - 1) from by omega]
    rw [Nat.add_div_right _ hk, Nat.mul_div_cancel_left _ hk, Nat.mul_add_div hk, Nat.div_eq_of_lt (show k - 1 < k by omega)]
  · rw [if_neg h]
    have e := Nat.div_add_mod i k
    have hm := Nat.mod_lt i hk
    generalize i / k = q at *
    generalize hx : i % k = x at *
    subst e
    by_cases hx2 : x < r
    · rw [show k * q + x + 1 + (k - 1 - r) = k * q + (x + (k - r)) from by omega, show k * q + x + (k - 1 - r) = k * q + (x + (k - 1 - r)) from by omega]
      rw [Nat.mul_add_div hk, Nat.mul_add_div hk, Nat.div_eq_of_lt (show x + (k - r) < k by omega), Nat.div_eq_of_lt (show x + (k - 1 - r) < k by omega)]
    · rw [show k * q + x + 1 + (k - 1 - r) = k * q + k + (x - r) from by omega, show k * q + x + (k - 1 - r) = k * q + k + (x - r - 1) from by omega]
      rw [Nat.add_assoc, Nat.add_assoc, Nat.mul_add_div hk, Nat.mul_add_div hk, Nat.add_div_left _ hk, Nat.add_div_left _ hk, Nat.div_eq_of_lt (show x - r < k by omega), Nat.div_eq_of_lt (show x - r - 1 < k by omega)]
theorem tw_succ {k i r : Nat} (h1 : 1 ≤ k) (hr : r < k) : tw k (i + 1) r = if i % k = r then 0 else tw k i r + 1 := by
  unfold tw
  have hk : 0 < k := h1
  have e := Nat.div_add_mod i k
  have hm := Nat.mod_lt i hk
  by_cases h : i % k = r
  · rw [if_pos h, if_neg (by have := Nat.mod_le i k; omega)]
    obtain ⟨q, rfl⟩ := (mod_eq hr).1 h
    rw [show k * q + r + 1 - 1 - r = k * q from by omega, Nat.mul_mod_right]
  · rw [if_neg h]
    by_cases hi : i + 1 ≤ r
    · rw [if_pos hi, if_pos (by omega)]
    · have hir : ¬ i ≤ r := fun h2 => by
        have : i = r := by omega
        subst this
        exact h (Nat.mod_eq_of_lt hr)
      rw [if_neg hi, if_neg hir]
      rw [show i + 1 - 1 - r = i - 1 - r + 1 from by omega]
      have h3 : (i - 1 - r) % k ≠ k - 1 := fun h4 => by
        obtain ⟨q, hq⟩ := (mod_eq (show k - 1 < k by omega)).1 h4
        exact h ((mod_eq hr).2 ⟨q + 1, by rw [Nat.mul_add]; omega⟩)
      have h5 := Nat.mod_lt (i - 1 - r) hk
      have e2 := Nat.div_add_mod (i - 1 - r) k
      generalize (i - 1 - r) / k = q at *
      generalize (i - 1 - r) % k = y at *
      rw [← e2, show k * q + y + 1 = k * q + (y + 1) from by omega, Nat.mul_add_mod, Nat.mod_eq_of_lt (by omega)]
theorem rk_who {k at0 i j : Nat} (h1 : 1 ≤ k) (ha : at0 < k) (hj : j < k) : rk k at0 j = i % k ↔ j = (at0 + i) % k := by
  unfold rk
  have e := Nat.div_add_mod i k
  have hm := Nat.mod_lt i h1
  have hx : (at0 + i) % k = (at0 + i % k) % k := by rw [Nat.add_mod, Nat.mod_eq_of_lt ha]
  rw [hx]
  generalize i % k = x at *
  by_cases h : at0 ≤ j
  · rw [show j + (k - at0) = (j - at0) + k from by omega, Nat.add_mod_right, Nat.mod_eq_of_lt (show j - at0 < k by omega)]
    by_cases h2 : at0 + x < k
    · rw [Nat.mod_eq_of_lt h2]; omega
    · rw [show at0 + x = (at0 + x - k) + k from by omega, Nat.add_mod_right, Nat.mod_eq_of_lt (show at0 + x - k < k by omega)]; omega
  · rw [Nat.mod_eq_of_lt (show j + (k - at0) < k by omega)]
    by_cases h2 : at0 + x < k
    · rw [Nat.mod_eq_of_lt h2]; omega
    · rw [show at0 + x = (at0 + x - k) + k from by omega, Nat.add_mod_right, Nat.mod_eq_of_lt (show at0 + x - k < k by omega)]; omega
theorem trn0 {k at0 : Nat} (h1 : 1 ≤ k) (h8 : k ≤ 8) : Trn k at0 0 (newM k) := by
  refine ⟨rfl, new_ok h1 h8, fun j _ => rep_get k j, fun j _ => ?_, fun j _ => ?_, by simp [newM]⟩
  · have : tp k 0 (rk k at0 j) = 0 := by unfold tp; exact Nat.div_eq_of_lt (by omega)
    rw [this]; exact rep_get k j
  · have : tw k 0 (rk k at0 j) = 0 := by unfold tw; rw [if_pos (Nat.zero_le _)]
    rw [this]; exact rep_get k j
theorem trn_step {k at0 i : Nat} {m : Tab} (h : Trn k at0 i m) (h1 : 1 ≤ k) (ha : at0 < k) : runM m ≠ [] ∧ whoM m ((at0 : Int) + (i : Int)) = (at0 + i) % k ∧ Trn k at0 (i + 1) (pickM m ((at0 : Int) + (i : Int))) := by
  have hr : runM m = List.range k := by rw [run_all (by rw [h.n]; exact h.st), h.n]
  have hr0 : runM m ≠ [] := by rw [hr]; intro e; have := congrArg List.length e; simp at this; omega
  have hw : whoM m ((at0 : Int) + (i : Int)) = (at0 + i) % k := by
    unfold whoM
    rw [hr, List.length_range]
    have e : (((at0 : Int) + (i : Int)) % (k : Int)).toNat = (at0 + i) % k := by
      rw [← Int.natCast_add, ← Int.natCast_emod, Int.toNat_natCast]
    rw [e]
    have := Nat.mod_lt (at0 + i) h1
    simp [List.getD_eq_getElem?_getD, this]
  refine ⟨hr0, hw, (pick_n m _).trans h.n, (pick_ok h.ok _).mono (by omega), fun j hj => by rw [pick_st hr0]; exact h.st j hj, fun j hj => ?_, fun j hj => ?_, ?_⟩
  · rw [pick_pk h.ok hr0 j (by rw [h.n]; exact hj), hw, h.pk j hj, tp_succ h1 (rk_lt h1)]
    have := rk_who (i := i) h1 ha hj
    by_cases e : j = (at0 + i) % k
    · rw [if_pos e, if_pos (this.2 e).symm]; rfl
    · rw [if_neg e, if_neg (fun x => e (this.1 x.symm))]
  · rw [pick_wt h.ok hr0 j (by rw [h.n]; exact hj), hw, h.wt j hj, tw_succ h1 (rk_lt h1), if_pos (h.st j hj)]
    have := rk_who (i := i) h1 ha hj
    by_cases e : j = (at0 + i) % k
    · rw [if_pos e, if_pos (this.2 e).symm]; rfl
    · rw [if_neg e, if_neg (fun x => e (this.1 x.symm))]; rfl
  · -- the longest wait
    have hB := pick_worst h.ok hr0 (p := (at0 : Int) + (i : Int))
    have up : (pickM m ((at0 : Int) + (i : Int))).worst ≤ ((min (i + 1) (k - 1) : Nat) : Int) := (hB _).2 ⟨by rw [h.worst]; omega, fun j hj _ hjt => by
      rw [h.n] at hj
      rw [hw] at hjt
      rw [h.wt j hj]
      have h2 : tw k (i + 1) (rk k at0 j) = tw k i (rk k at0 j) + 1 := by
        rw [tw_succ h1 (rk_lt h1), if_neg (fun x => hjt ((rk_who h1 ha hj).1 x.symm))]
      have h3 := tw_le (i := i + 1) h1 (rk_lt (at0 := at0) (j := j) h1)
      have h4 : tw k i (rk k at0 j) ≤ i := by
        unfold tw; split
        · exact Nat.le_refl _
        · exact Nat.le_trans (Nat.mod_le _ _) (by omega)
      omega⟩
    have lo : ((min (i + 1) (k - 1) : Nat) : Int) ≤ (pickM m ((at0 : Int) + (i : Int))).worst := by
      rcases Nat.lt_or_ge i (k - 1) with hik | hik
      · -- the last of the row waits from the start
        have hex : ∃ j, j < k ∧ rk k at0 j = k - 1 := by
          refine ⟨(at0 + (k - 1)) % k, Nat.mod_lt _ h1, ?_⟩
          have := (rk_who (i := k - 1) h1 ha (Nat.mod_lt (at0 + (k - 1)) h1)).2 rfl
          rwa [Nat.mod_eq_of_lt (show k - 1 < k by omega)] at this
        obtain ⟨j, hj, hrj⟩ := hex
        have hjt : j ≠ (at0 + i) % k := fun e => by
          have := (rk_who h1 ha hj).2 e
          rw [Nat.mod_eq_of_lt (show i < k by omega)] at this
          omega
        have := ((hB (pickM m ((at0 : Int) + (i : Int))).worst).1 (Int.le_refl _)).2 j (by rw [h.n]; exact hj) (h.st j hj) (by rw [hw]; exact hjt)
        rw [h.wt j hj, hrj] at this
        have h5 : tw k i (k - 1) = i := by unfold tw; rw [if_pos (by omega)]
        rw [h5] at this
        omega
      · have := ((hB (pickM m ((at0 : Int) + (i : Int))).worst).1 (Int.le_refl _)).1
        rw [h.worst] at this
        omega
    omega

set_option maxRecDepth 100000 in
set_option maxHeartbeats 1000000 in
theorem turns_spec (n f : Int) (c : Nat) (hc : c ≤ 65535) : Con Try.prog 3 [.int .i64 n, .int .i64 f, .int .u16 (c : Int)] (fun _ => True) [] (fun _ : Unit => .bool true) (fun _ => True) (fun _ => []) := by
  intro w hl hH
  obtain ⟨k, hk, h1, h8⟩ : ∃ k : Nat, 1 + n % 8 = (k : Int) ∧ 1 ≤ k ∧ k ≤ 8 := ⟨(1 + n % 8).toNat, by omega, by omega, by omega⟩
  have hf1 := Int.emod_nonneg f (show (k : Int) ≠ 0 by omega)
  have hf2 := Int.emod_lt_of_pos f (show (0 : Int) < k by omega)
  obtain ⟨at0, hat⟩ : ∃ at0 : Nat, f % (k : Int) = (at0 : Int) := ⟨(f % (k : Int)).toNat, by omega⟩
  have ha : at0 < k := by omega
  refine enter (n := 110) (vs := [.int .i64 n, .int .i64 f, .int .u16 (c : Int)]) (St w [] []) Try.func3 rfl rfl rfl (St.init hH) ?_
  refine c_seq ?_
  refine c_region _ rfl ?_
  refine l_q rfl (q_assign rfl rfl) rfl rfl ?_
  refine l_nil ?_
  refine k_then ?_
  refine c_seq ?_
  refine c_region _ rfl ?_
  refine l_q rfl (q_move rfl rfl) rfl rfl ?_
  refine l_e rfl ?_
  refine e_call_00 (place_spec n 8 (by decide) (by decide)) rfl rfl rfl Try.call8 rfl (fun _ _ => trivial) ?_
  intro _ _
  refine l_q rfl (q_add64 rfl rfl rfl (by omega)) rfl rfl ?_
  refine l_q rfl (q_assign rfl rfl) rfl rfl ?_
  refine l_nil ?_
  refine k_then ?_
  refine c_seq ?_
  refine c_region _ rfl ?_
  refine l_q rfl (q_move rfl rfl) rfl rfl ?_
  refine Pre.setV (t := 20) (c := .int .i64 (k : Int)) rfl (congrArg (Value.int .i64) hk) ?_
  refine l_e rfl ?_
  refine e_call_01 (new_yes h1 h8) rfl rfl rfl Try.call9 rfl (fun _ _ => trivial) ?_
  intro b _
  refine l_q rfl (q_move rfl rfl) rfl rfl ?_
  refine l_q rfl (q_extract rfl rfl rfl) rfl rfl ?_
  refine l_q rfl (q_extract rfl rfl rfl) rfl rfl ?_
  refine l_q rfl (q_assign rfl rfl) rfl rfl ?_
  refine l_q rfl (q_assign rfl rfl) rfl rfl ?_
  refine l_nil ?_
  refine k_then ?_
  refine c_seq ?_
  refine c_seq ?_
  refine c_region _ rfl ?_
  refine l_q rfl (q_move rfl rfl) rfl rfl ?_
  refine l_q rfl (q_neq rfl rfl rfl) rfl rfl ?_
  refine l_q rfl (q_move rfl rfl) rfl rfl ?_
  refine Pre.setV (t := 7) (c := .int .i64 (k : Int)) rfl (congrArg (Value.int .i64) hk) ?_
  refine Pre.setB (t := 26) (c := false) rfl (rfl) ?_
  refine l_q rfl (q_move rfl rfl) rfl rfl ?_
  refine l_q rfl (q_eqp rfl Try.underlying24 rfl rfl) rfl rfl ?_
  refine l_q rfl (q_pick_f rfl rfl rfl) rfl rfl ?_
  refine l_nil ?_
  refine k_then ?_
  refine Pre.setB (t := 29) (c := false) rfl (rfl) ?_
  refine c_false rfl ?_
  refine c_skip ?_
  refine k_then ?_
  refine c_seq ?_
  refine c_region _ rfl ?_
  refine l_q rfl (q_move rfl rfl) rfl rfl ?_
  refine l_q rfl (q_move rfl rfl) rfl rfl ?_
  refine l_e rfl ?_
  refine e_call_00 (place_spec f (k : Int) (by omega) (by omega)) rfl rfl rfl Try.call8 rfl (fun _ _ => trivial) ?_
  intro _ _
  refine l_q rfl (q_assign rfl rfl) rfl rfl ?_
  refine l_nil ?_
  refine k_then ?_
  refine c_seq ?_
  refine c_region _ rfl ?_
  refine l_q rfl (q_move rfl rfl) rfl rfl ?_
  refine l_q rfl (q_rem_nn rfl rfl rfl (by omega) (by omega)) rfl rfl ?_
  refine l_q rfl (q_conv_in rfl Try.underlying22 Try.underlying3 rfl (by first | rfl | (simp only [IntKind.wrap]; omega) | exact wrap64_in (by omega))) rfl rfl ?_
  refine l_q rfl (q_assign rfl rfl) rfl rfl ?_
  refine l_nil ?_
  refine k_then ?_
  refine c_seq ?_
  refine c_seq ?_
  refine c_region _ rfl ?_
  refine l_q rfl (q_assign rfl rfl) rfl rfl ?_
  refine l_nil ?_
  refine k_then ?_
  refine c_block ?_
  refine Pre.setV (t := 10) (c := .int .i64 (at0 : Int)) rfl (congrArg (Value.int .i64) hat) ?_
  refine c_loop2 (fun (i : Nat) (m : Tab) => [(7, .int .i64 (k : Int)), (8, .pointer (some ⟨b, 0, none⟩)), (10, .int .i64 (at0 : Int)), (11, .int .i64 ((c % 300 : Nat) : Int)), (12, .int .i64 (i : Int))]) (fun (i : Nat) (m : Tab) => St w [] [cellsE b 55 (tabC m)]) (fun (i : Nat) (m : Tab) => i ≤ c % 300 ∧ Trn k at0 i m) (fun (i : Nat) (m : Tab) => c % 300 - i) (0) (newM k) ⟨Nat.zero_le _, trn0 h1 h8⟩ (Sub.cons rfl (Sub.cons rfl (Sub.cons rfl (Sub.consE rfl (congrArg (Value.int .i64) (by omega)) (Sub.cons rfl Sub.nil))))) (fun _ h => h) ?_
  intro i m hp
  refine c_seq ?_
  refine c_seq ?_
  obtain ⟨hi, hv⟩ := hp
  refine c_region _ rfl ?_
  refine l_q rfl (q_move rfl rfl) rfl rfl ?_
  refine l_q rfl (q_move rfl rfl) rfl rfl ?_
  refine l_q rfl (q_lss rfl rfl rfl) rfl rfl ?_
  refine l_nil ?_
  refine k_then ?_
  refine Pre.caseB 38 rfl (fun hlt => ?_) (fun hlt => ?_)
  · simp only [decide_eq_true_eq, decide_eq_false_iff_not, Bool.not_eq_true', Bool.not_eq_false'] at hlt
    obtain ⟨hr0, hwho, hv2⟩ := trn_step hv h1 ha
    have hwI : ((whoM m ((at0 : Int) + (i : Int)) : Nat) : Int) = ((at0 : Int) + (i : Int)) % (k : Int) := by rw [hwho, Int.natCast_emod, Int.natCast_add]
    refine c_true rfl ?_
    refine c_skip ?_
    refine k_then ?_
    refine c_seq ?_
    refine c_block ?_
    refine c_seq ?_
    refine c_region _ rfl ?_
    refine l_q rfl (q_move rfl rfl) rfl rfl ?_
    refine l_q rfl (q_move rfl rfl) rfl rfl ?_
    refine l_q rfl (q_move rfl rfl) rfl rfl ?_
    refine l_q rfl (q_add64 rfl rfl rfl (by omega)) rfl rfl ?_
    refine l_e rfl ?_
    refine e_call_11 (pick_spec hv.ok (by omega) b ((at0 : Int) + (i : Int))) rfl rfl rfl Try.call10 rfl (fun _ _ => trivial) ?_
    intro _ _
    refine l_q rfl (q_move rfl rfl) rfl rfl ?_
    refine l_q rfl (q_extract rfl rfl rfl) rfl rfl ?_
    refine l_q rfl (q_extract rfl rfl rfl) rfl rfl ?_
    refine l_q rfl (q_assign rfl rfl) rfl rfl ?_
    refine l_q rfl (q_assign rfl rfl) rfl rfl ?_
    refine l_nil ?_
    refine k_then ?_
    refine c_seq ?_
    refine c_region _ rfl ?_
    refine l_q rfl (q_move rfl rfl) rfl rfl ?_
    refine l_q rfl (q_not rfl rfl) rfl rfl ?_
    refine l_q rfl (q_move rfl rfl) rfl rfl ?_
    refine Pre.setB (t := 51) (c := false) rfl (by simpa using hr0) ?_
    refine l_q rfl (q_move rfl rfl) rfl rfl ?_
    refine l_q rfl (q_move rfl rfl) rfl rfl ?_
    refine l_q rfl (q_move rfl rfl) rfl rfl ?_
    refine l_q rfl (q_add64 rfl rfl rfl (by omega)) rfl rfl ?_
    refine l_q rfl (q_move rfl rfl) rfl rfl ?_
    refine l_q rfl (q_rem_nn rfl rfl rfl (by omega) (by omega)) rfl rfl ?_
    refine l_q rfl (q_neq rfl rfl rfl) rfl rfl ?_
    refine l_q rfl (q_pick_f rfl rfl rfl) rfl rfl ?_
    refine l_nil ?_
    refine k_then ?_
    refine Pre.setB (t := 59) (c := false) rfl (by rw [hwI]; simp) ?_
    refine c_false rfl ?_
    refine c_skip ?_
    refine k_block ?_
    refine k_then ?_
    refine c_region _ rfl ?_
    refine l_q rfl (q_move rfl rfl) rfl rfl ?_
    refine l_q rfl (q_inc rfl rfl rfl (by omega)) rfl rfl ?_
    refine l_q rfl (q_assign rfl rfl) rfl rfl ?_
    refine l_nil ?_
    exact k_round ((i + 1, pickM m ((at0 : Int) + (i : Int)))) (by dsimp only; omega) ⟨by dsimp only; omega, hv2⟩ (Sub.cons rfl (Sub.cons rfl (Sub.cons rfl (Sub.cons rfl (Sub.cons rfl (Sub.nil)))))) (fun _ h => h)
  · simp only [decide_eq_true_eq, decide_eq_false_iff_not, Bool.not_eq_true', Bool.not_eq_false'] at hlt
    have hic : i = c % 300 := by omega
    subst hic
    refine c_false rfl ?_
    refine c_exit ?_
    refine k_then_exit ?_
    refine k_then_exit ?_
    refine k_block_exit ?_
    refine k_then ?_
    refine c_seq ?_
    refine c_seq ?_
    refine c_region _ rfl ?_
    refine l_q rfl (q_assign rfl rfl) rfl rfl ?_
    refine l_nil ?_
    refine k_then ?_
    refine c_block ?_
    refine c_loop1 (fun (j : Nat) => [(7, .int .i64 (k : Int)), (8, .pointer (some ⟨b, 0, none⟩)), (10, .int .i64 (at0 : Int)), (11, .int .i64 ((c % 300 : Nat) : Int)), (15, .int .i64 (j : Int))]) (fun (j : Nat) => St w [] [cellsE b 55 (tabC m)]) (fun (j : Nat) => j ≤ k) (fun (j : Nat) => k - j) (0) (Nat.zero_le _) (Sub.cons rfl (Sub.cons rfl (Sub.cons rfl (Sub.cons rfl (Sub.cons rfl (Sub.nil)))))) (fun _ h => h) ?_
    intro j hj
    refine c_seq ?_
    refine c_seq ?_
    refine c_region _ rfl ?_
    refine l_q rfl (q_move rfl rfl) rfl rfl ?_
    refine l_q rfl (q_move rfl rfl) rfl rfl ?_
    refine l_q rfl (q_lss rfl rfl rfl) rfl rfl ?_
    refine l_nil ?_
    refine k_then ?_
    refine Pre.caseB 62 rfl (fun hjk => ?_) (fun hjk => ?_)
    · simp only [decide_eq_true_eq, decide_eq_false_iff_not, Bool.not_eq_true', Bool.not_eq_false'] at hjk
      have hjl : j < k := by omega
      have e1 := hv.pk j hjl
      have e2 := hv.wt j hjl
      have e3 := tp_le (i := c % 300) h1 (rk_lt (at0 := at0) (j := j) h1)
      have e4 := tw_le (i := c % 300) h1 (rk_lt (at0 := at0) (j := j) h1)
      have hin : 0 ≤ (j : Int) ∧ (j : Int) < m.n := ⟨by omega, by rw [hv.n]; omega⟩
      have hdv : ((c % 300 : Nat) : Int) / (k : Int) = ((c % 300 / k : Nat) : Int) := (Int.natCast_ediv _ _).symm
      refine c_true rfl ?_
      refine c_skip ?_
      refine k_then ?_
      refine c_seq ?_
      refine c_block ?_
      refine c_seq ?_
      refine c_draw [(0, some true), (1, some true), (3, some true), (4, some true), (5, some true), (2, some false), (6, some true), (7, some true), (8, some true), (9, some true), (11, some true), (12, some true), (13, some true), (14, some true), (10, some false), (15, some true), (16, some true), (17, some true), (18, some true), (19, some true), (21, some true), (22, some true), (20, some false), (23, some true), (24, some true)] [] [(_, some true), (_, some true), (_, some true), (_, some true), (_, some true), (_, some false), (_, some true), (_, some true), (_, some true), (_, some true), (_, some true), (_, some true), (_, some true), (_, some true), (_, some false), (_, some true), (_, some true), (_, some true), (_, some true), (_, some true), (_, some true), (_, some true), (_, some false), (_, some true), (_, some true)] (fun _ => True) (blind_then (blind_block (blind_then (blind_then (blind_block (blind_then blind_body)))))) rfl (by kernel_rfl) (by kernel_rfl) rfl rfl rfl (by kernel_rfl) St.drawn (fun _ _ => trivial) ?_
      refine d_q rfl (q_move rfl rfl) rfl rfl ?_
      refine d_q rfl (q_move rfl rfl) rfl rfl ?_
      refine d_q rfl (q_move rfl rfl) rfl rfl ?_
      refine d_q rfl (q_move rfl rfl) rfl rfl ?_
      refine d_q rfl (q_quo_nn rfl rfl rfl (by omega) (by omega) (by omega)) rfl rfl ?_
      refine d_e rfl ?_
      refine e_call_11 (picks_spec hv.ok b j) rfl rfl rfl Try.call11 rfl (fun _ _ => trivial) ?_
      intro _ _
      refine d_held (fun _ _ => trivial) ?_
      refine d_q rfl (q_lss rfl rfl rfl) rfl rfl ?_
      refine d_q rfl (q_move rfl rfl) rfl rfl ?_
      refine Pre.setB (t := 72) (c := false) rfl (by rw [if_pos hin, Int.toNat_natCast, e1, hdv]; exact decide_eq_false (by omega)) ?_
      refine d_q rfl (q_move rfl rfl) rfl rfl ?_
      refine d_q rfl (q_move rfl rfl) rfl rfl ?_
      refine d_q rfl (q_move rfl rfl) rfl rfl ?_
      refine d_q rfl (q_move rfl rfl) rfl rfl ?_
      refine d_q rfl (q_quo_nn rfl rfl rfl (by omega) (by omega) (by omega)) rfl rfl ?_
      refine d_q rfl (q_add64 rfl rfl rfl (by rw [hdv]; have := Nat.div_le_self (c % 300) k; omega)) rfl rfl ?_
      refine d_e rfl ?_
      refine e_call_11 (picks_spec hv.ok b j) rfl rfl rfl Try.call11 rfl (fun _ _ => trivial) ?_
      intro _ _
      refine d_held (fun _ _ => trivial) ?_
      refine d_q rfl (q_gtr rfl rfl rfl) rfl rfl ?_
      refine d_q rfl (q_pick_f rfl rfl rfl) rfl rfl ?_
      refine d_q rfl (q_move rfl rfl) rfl rfl ?_
      refine Pre.setB (t := 82) (c := false) rfl (by rw [if_pos hin, Int.toNat_natCast, e1, hdv]; exact decide_eq_false (by omega)) ?_
      refine d_q rfl (q_move rfl rfl) rfl rfl ?_
      refine d_q rfl (q_move rfl rfl) rfl rfl ?_
      refine d_q rfl (q_move rfl rfl) rfl rfl ?_
      refine d_q rfl (q_sub64 rfl rfl rfl (by omega)) rfl rfl ?_
      refine d_e rfl ?_
      refine e_call_11 (wait_spec hv.ok b j) rfl rfl rfl Try.call12 rfl (fun _ _ => trivial) ?_
      intro _ _
      refine d_held (fun _ _ => trivial) ?_
      refine d_q rfl (q_gtr rfl rfl rfl) rfl rfl ?_
      refine d_q rfl (q_pick_f rfl rfl rfl) rfl rfl ?_
      refine d_nil ?_
      refine k_then ?_
      refine Pre.setB (t := 89) (c := false) rfl (by rw [if_pos hin, Int.toNat_natCast, e2]; exact decide_eq_false (by omega)) ?_
      refine c_false rfl ?_
      refine c_skip ?_
      refine k_block ?_
      refine k_then ?_
      refine c_region _ rfl ?_
      refine l_q rfl (q_move rfl rfl) rfl rfl ?_
      refine l_q rfl (q_inc rfl rfl rfl (by omega)) rfl rfl ?_
      refine l_q rfl (q_assign rfl rfl) rfl rfl ?_
      refine l_nil ?_
      exact k_round (j + 1) (by omega) (by omega) (Sub.cons rfl (Sub.cons rfl (Sub.cons rfl (Sub.cons rfl (Sub.cons rfl (Sub.nil)))))) (fun _ h => h)
    · simp only [decide_eq_true_eq, decide_eq_false_iff_not, Bool.not_eq_true', Bool.not_eq_false'] at hjk
      have hwr := hv.worst
      refine c_false rfl ?_
      refine c_exit ?_
      refine k_then_exit ?_
      refine k_then_exit ?_
      refine k_block_exit ?_
      refine k_then ?_
      refine c_seq ?_
      refine c_region _ rfl ?_
      refine l_q rfl (q_move rfl rfl) rfl rfl ?_
      refine l_e rfl ?_
      refine e_call_11 (worst_spec hv.ok b) rfl rfl rfl Try.call13 rfl (fun _ _ => trivial) ?_
      intro _ _
      refine l_q rfl (q_move rfl rfl) rfl rfl ?_
      refine l_q rfl (q_sub64 rfl rfl rfl (by omega)) rfl rfl ?_
      refine l_q rfl (q_leq rfl rfl rfl) rfl rfl ?_
      refine l_q rfl (q_move rfl rfl) rfl rfl ?_
      refine Pre.setB (t := 95) (c := true) rfl (by rw [hwr]; exact decide_eq_true (by omega)) ?_
      refine l_q rfl (q_move rfl rfl) rfl rfl ?_
      refine l_q rfl (q_move rfl rfl) rfl rfl ?_
      refine l_q rfl (q_lss rfl rfl rfl) rfl rfl ?_
      refine l_q rfl (q_move rfl rfl) rfl rfl ?_
      refine Pre.caseB 99 rfl (fun hmk => ?_) (fun hmk => ?_)
      · simp only [decide_eq_true_eq, decide_eq_false_iff_not, Bool.not_eq_true', Bool.not_eq_false'] at hmk
        refine l_not rfl rfl rfl ?_
        refine l_not rfl rfl rfl ?_
        refine l_not rfl rfl rfl ?_
        refine l_not rfl rfl rfl ?_
        refine l_not rfl rfl rfl ?_
        refine l_q rfl (q_pick_t rfl rfl rfl) rfl rfl ?_
        refine l_q rfl (q_pick_t rfl rfl rfl) rfl rfl ?_
        refine l_q rfl (q_move rfl rfl) rfl rfl ?_
        refine l_e rfl ?_
        refine e_call_00 (awake_spec) rfl rfl rfl Try.call14 rfl (fun _ _ => trivial) ?_
        intro _ _
        refine l_q rfl (q_pick_t rfl rfl rfl) rfl rfl ?_
        refine l_q rfl (q_assign rfl rfl) rfl rfl ?_
        refine l_nil ?_
        refine k_then ?_
        refine c_ret ?_
        refine r_one rfl rfl ?_
        exact fun _ h => ⟨(), rfl, trivial, h.nothing⟩
      · simp only [decide_eq_true_eq, decide_eq_false_iff_not, Bool.not_eq_true', Bool.not_eq_false'] at hmk
        refine l_q rfl (q_move rfl rfl) rfl rfl ?_
        refine l_e rfl ?_
        refine e_call_11 (worst_spec hv.ok b) rfl rfl rfl Try.call13 rfl (fun _ _ => trivial) ?_
        intro _ _
        refine l_q rfl (q_move rfl rfl) rfl rfl ?_
        refine l_q rfl (q_sub64 rfl rfl rfl (by omega)) rfl rfl ?_
        refine l_q rfl (q_eql rfl rfl rfl) rfl rfl ?_
        refine l_q rfl (q_pick_f rfl rfl rfl) rfl rfl ?_
        refine l_q rfl (q_pick_t rfl rfl rfl) rfl rfl ?_
        refine l_q rfl (q_move rfl rfl) rfl rfl ?_
        refine Pre.setB (t := 107) (c := true) rfl (by rw [hwr]; exact decide_eq_true (by omega)) ?_
        refine l_e rfl ?_
        refine e_call_00 (awake_spec) rfl rfl rfl Try.call14 rfl (fun _ _ => trivial) ?_
        intro _ _
        refine l_q rfl (q_pick_t rfl rfl rfl) rfl rfl ?_
        refine l_q rfl (q_assign rfl rfl) rfl rfl ?_
        refine l_nil ?_
        refine k_then ?_
        refine c_ret ?_
        refine r_one rfl rfl ?_
        exact fun _ h => ⟨(), rfl, trivial, h.nothing⟩
theorem schedTurns_walk (w : World) (a0 : Int) (w0 : (Lit.int .i64 a0).wf = true) (a1 : Int) (w1 : (Lit.int .i64 a1).wf = true) (a2 : Int) (w2 : (Lit.int .u16 a2).wf = true) :
    Calls Try.prog 3 #[.int .i64 a0, .int .i64 a1, .int .u16 a2] w fun e w' => e = .returned (.bool true) ∧ Below w.heap.size w w' := by
  obtain ⟨c, rfl, hc⟩ := u16_nat w2
  exact con_walk (turns_spec a0 a1 c hc) trivial
end Go.Proofs.Ytjanmpghcigigaa
