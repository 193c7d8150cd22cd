/- SchedOldest, walked -/
import Derived.Test.YtjanmpghcigigaaP
import Derived.Test.YtjanmpghcigigaaS9
set_option linter.unusedVariables false
set_option linter.unusedSimpArgs false
namespace Go.Proofs.Ytjanmpghcigigaa
open Go.Sep Go.RowKit

theorem wrapu8_in' {z : Int} (h : 0 ≤ z ∧ z ≤ 255) : IntKind.u8.wrap z = z := by
  simp only [IntKind.wrap, IntKind.signed, IntKind.bits, Bool.false_and, Bool.false_eq_true, if_false]; omega
/-- Who waits v and longer. -/
def old (k : Nat) (m : Tab) (v : Nat) : List Nat := (List.range k).filter (fun j => decide ((v : Int) ≤ m.wt.getD j 0))
structure Old (k i : Nat) (m : Tab) : Prop where
  n : m.n = k
  ok : m.Ok (9 * i)
  st : ∀ j, j < k → m.st.getD j 0 ≠ 2
  zero : ∀ j, j < k → m.st.getD j 0 ≠ 0 → m.wt.getD j 0 = 0
  cnt : ∀ v, 1 ≤ v → (old k m v).length + v ≤ k ∨ old k m v = []
  worst : m.worst ≤ (k : Int) - 1
theorem old_mem {k : Nat} {m : Tab} {v j : Nat} : j ∈ old k m v ↔ j < k ∧ (v : Int) ≤ m.wt.getD j 0 := by simp [old]
theorem filter_sub {α : Type} {p q : α → Bool} : ∀ {l : List α}, (∀ x ∈ l, p x = true → q x = true) → (l.filter p).Sublist (l.filter q)
  | [], _ => List.Sublist.slnil
  | x :: l, h => by
    have ih := filter_sub (l := l) (fun y hy => h y (List.mem_cons_of_mem _ hy))
    cases hp : p x with
    | true =>
      rw [List.filter_cons_of_pos hp, List.filter_cons_of_pos (h x (List.mem_cons_self ..) hp)]
      exact ih.cons_cons x
    | false =>
      rw [List.filter_cons_of_neg (by simp [hp])]
      cases hq : q x with
      | true => rw [List.filter_cons_of_pos hq]; exact ih.cons x
      | false => rw [List.filter_cons_of_neg (by simp [hq])]; exact ih
theorem old_le {k : Nat} {m m' : Tab} {v : Nat} (h : ∀ j, j < k → m'.wt.getD j 0 ≤ m.wt.getD j 0) : (old k m' v).Sublist (old k m v) := by
  unfold old
  refine filter_sub (fun j hj hv => ?_)
  have := h j (List.mem_range.1 hj)
  simp only [decide_eq_true_eq] at hv ⊢
  omega
theorem old0 {k : Nat} (h1 : 1 ≤ k) (h8 : k ≤ 8) : Old k 0 (newM k) := by
  have hw : ∀ j, (newM k).wt.getD j 0 = 0 := fun j => rep_get k j
  have hs : ∀ j, (newM k).st.getD j 0 = 0 := fun j => rep_get k j
  refine ⟨rfl, new_ok h1 h8, fun j _ => by rw [hs]; decide, fun j _ => fun _ => hw j, fun v hv => .inr ?_, by simp [newM]; omega⟩
  refine List.eq_nil_iff_forall_not_mem.2 (fun j hj => ?_)
  have := (old_mem.1 hj).2
  rw [hw] at this; omega
theorem old_turn {k i : Nat} {m : Tab} (h : Old k i m) {j : Nat} (hj : j < k) {s : Int} (hs : s = 0 ∨ s = 1) : Old k i (turnM m j s) := by
  have hst := fun x => turn_st h.ok j s x (by rw [h.n]; exact hj)
  have hwt := fun x => turn_wt h.ok j s x (by rw [h.n]; exact hj)
  have hle : ∀ x, x < k → (turnM m j s).wt.getD x 0 ≤ m.wt.getD x 0 := fun x hx => by
    rw [hwt x]
    have := (h.ok.wt0 x (by rw [h.n]; exact hx)).1
    split <;> omega
  refine ⟨(turn_n m j s).trans h.n, turn_ok h.ok j s, fun x hx => ?_, fun x hx hne => ?_, fun v hv => ?_, by rw [turn_worst]; exact h.worst⟩
  · rw [hst x]; split
    · rcases hs with rfl | rfl <;> decide
    · exact h.st x hx
  · rw [hwt x]
    by_cases hxj : x = j
    · subst hxj
      rcases hs with rfl | rfl
      · rw [if_neg (fun y => y.2.2 rfl)]
        rw [hst x, if_pos ⟨rfl, h.st x hx⟩] at hne
        exact absurd rfl hne
      · rw [if_pos ⟨rfl, h.st x hx, by decide⟩]
    · rw [if_neg (fun y => hxj y.1)]
      rw [hst x, if_neg (fun y => hxj y.1)] at hne
      exact h.zero x hx hne
  · have hsub := old_le (v := v) hle
    rcases h.cnt v hv with h1 | h1
    · exact .inl (by have := hsub.length_le; omega)
    · exact .inr (by rw [h1] at hsub; exact List.eq_nil_of_sublist_nil hsub)
theorem old_pick {k i : Nat} {m : Tab} (h : Old k i m) (h1 : 1 ≤ k) (p : Int) (hmax : ∀ j, j ∈ runM m → m.wt.getD j 0 ≤ m.wt.getD (whoM m p) 0) : Old k (i + 1) (pickM m p) := by
  by_cases hr : runM m = []
  · rw [pick_none hr]; exact ⟨h.n, h.ok.mono (by omega), h.st, h.zero, h.cnt, h.worst⟩
  have hw := run_mem.1 (who_mem p hr)
  rw [h.n] at hw
  have hwt := fun j (hj : j < k) => pick_wt h.ok (p := p) hr j (by rw [h.n]; exact hj)
  have hz : ∀ j, j < k → m.st.getD j 0 ≠ 0 → (pickM m p).wt.getD j 0 = 0 := fun j hj hne => by
    rw [hwt j hj]
    by_cases e : j = whoM m p
    · rw [if_pos e]
    · rw [if_neg e, if_neg hne]; exact h.zero j hj hne
  generalize hwho : whoM m p = t at *
  have hin : ∀ v j, 1 ≤ v → j ∈ old k (pickM m p) v → j < k ∧ j ≠ t ∧ m.st.getD j 0 = 0 ∧ (v : Int) ≤ m.wt.getD j 0 + 1 := fun v j hv hj => by
    obtain ⟨hjk, hle⟩ := old_mem.1 hj
    have hjt : j ≠ t := fun e => by
      rw [hwt j hjk, if_pos e] at hle; omega
    rw [hwt j hjk, if_neg hjt] at hle
    by_cases hs : m.st.getD j 0 = 0
    · rw [if_pos hs] at hle; exact ⟨hjk, hjt, hs, hle⟩
    · rw [if_neg hs, h.zero j hjk hs] at hle; omega
  have hcnt : ∀ v, 1 ≤ v → (old k (pickM m p) v).length + v ≤ k ∨ old k (pickM m p) v = [] := fun v hv => by
    by_cases he : old k (pickM m p) v = []
    · exact .inr he
    left
    obtain ⟨j0, hj0⟩ := List.exists_mem_of_ne_nil _ he
    obtain ⟨a1, a2, a3, a4⟩ := hin v j0 hv hj0
    -- those who waited v - 1, without the one that is told
    have hB : (old k (pickM m p) v).length + 1 ≤ ((List.range k).filter (fun j => decide ((v : Int) - 1 ≤ m.wt.getD j 0))).length := by
      have ht : t ∈ (List.range k).filter (fun j => decide ((v : Int) - 1 ≤ m.wt.getD j 0)) := by
        simp only [List.mem_filter, List.mem_range, decide_eq_true_eq]
        have := hmax j0 (run_mem.2 ⟨by rw [h.n]; exact a1, a3⟩)
        exact ⟨hw.1, by omega⟩
      have hnd : ((List.range k).filter (fun j => decide ((v : Int) - 1 ≤ m.wt.getD j 0))).Nodup := List.nodup_range.filter _
      have hlen := List.length_erase_of_mem ht
      have hpos := List.length_pos_iff.2 (List.ne_nil_of_mem ht)
      have hsub : (old k (pickM m p) v).Sublist (((List.range k).filter (fun j => decide ((v : Int) - 1 ≤ m.wt.getD j 0))).erase t) := by
        rw [hnd.erase_eq_filter, List.filter_filter]
        unfold old
        refine filter_sub (fun x hx hv2 => ?_)
        obtain ⟨b1, b2, b3, b4⟩ := hin v x hv (List.mem_filter.2 ⟨hx, hv2⟩)
        simp only [Bool.and_eq_true, bne_iff_ne, ne_eq, decide_eq_true_eq]
        exact ⟨b2, by omega⟩
      have := hsub.length_le
      omega
    by_cases hv1 : v = 1
    · subst hv1
      have : ((List.range k).filter (fun j => decide (((1 : Nat) : Int) - 1 ≤ m.wt.getD j 0))).length ≤ k := by
        have := List.length_filter_le (fun j => decide (((1 : Nat) : Int) - 1 ≤ m.wt.getD j 0)) (List.range k)
        simpa using this
      omega
    · have e : (List.range k).filter (fun j => decide ((v : Int) - 1 ≤ m.wt.getD j 0)) = old k m (v - 1) := by
        unfold old
        refine List.filter_congr (fun j _ => ?_)
        rw [show ((v - 1 : Nat) : Int) = (v : Int) - 1 from by omega]
      rw [e] at hB
      rcases h.cnt (v - 1) (by omega) with h2 | h2
      · omega
      · rw [h2] at hB; simp at hB
  refine ⟨(pick_n m p).trans h.n, (pick_ok h.ok p).mono (by omega), fun j hj => by rw [pick_st hr]; exact h.st j hj, fun j hj hne => hz j hj (by rw [pick_st hr] at hne; exact hne), hcnt, ?_⟩
  refine (pick_worst h.ok hr _).2 ⟨h.worst, fun j hj hs hjt => ?_⟩
  rw [h.n] at hj
  rw [hwho] at hjt
  have h0 := (h.ok.wt0 j (by rw [h.n]; exact hj)).1
  obtain ⟨v, hv⟩ := Int.eq_ofNat_of_zero_le (show 0 ≤ m.wt.getD j 0 + 1 by omega)
  have hm : j ∈ old k (pickM m p) v := old_mem.2 ⟨hj, by rw [hwt j hj, if_neg hjt, if_pos hs]; omega⟩
  rcases hcnt v (by omega) with h2 | h2
  · have := List.length_pos_iff.2 (List.ne_nil_of_mem hm)
    omega
  · rw [h2] at hm; cases hm
/-- The one picked by its place. -/
theorem who_at {m : Tab} {a x : Nat} (h : (runM m)[a]? = some x) : whoM m (a : Int) = x := by
  have hl := (List.getElem?_eq_some_iff.1 h).1
  unfold whoM
  rw [Int.emod_eq_of_lt (by omega) (by omega), Int.toNat_natCast, List.getD_eq_getElem?_getD, h]; rfl

set_option maxRecDepth 100000 in
set_option maxHeartbeats 1000000 in
theorem oldest_spec {va : Value} (n : Int) (l : List Int) (hbd : ∀ z ∈ l, 0 ≤ z ∧ z ≤ 255) : Con Try.prog 7 [.int .i64 n, va] (fun w => RdV w va (encI .u8) l) [] (fun _ : Unit => .bool true) (fun _ => True) (fun _ => []) := by
  intro w hl hH
  obtain ⟨k, hk, h1, h8⟩ : ∃ k : Nat, 1 + n % 8 = (k : Int) ∧ 1 ≤ k ∧ k ≤ 8 := ⟨(1 + n % 8).toNat, by omega, by omega, by omega⟩
  refine enter (n := 117) (vs := [.int .i64 n, va]) (St w [] []) Try.func7 rfl rfl rfl (St.init hH) ?_
  refine c_seq ?_
  refine c_region _ rfl ?_
  refine l_q rfl (q_assign rfl rfl) rfl rfl ?_
  refine l_nil ?_
  refine k_then ?_
  refine c_seq ?_
  refine c_region _ rfl ?_
  refine l_q rfl (q_move rfl rfl) rfl rfl ?_
  refine l_e rfl ?_
  refine e_call_00 (place_spec n 8 (by decide) (by decide)) rfl rfl rfl Try.call8 rfl (fun _ _ => trivial) ?_
  intro _ _
  refine l_q rfl (q_add64 rfl rfl rfl (by omega)) rfl rfl ?_
  refine l_q rfl (q_assign rfl rfl) rfl rfl ?_
  refine l_nil ?_
  refine k_then ?_
  refine c_seq ?_
  refine c_region _ rfl ?_
  refine l_q rfl (q_move rfl rfl) rfl rfl ?_
  refine Pre.setV (t := 19) (c := .int .i64 (k : Int)) rfl (congrArg (Value.int .i64) hk) ?_
  refine l_e rfl ?_
  refine e_call_01 (new_yes h1 h8) rfl rfl rfl Try.call9 rfl (fun _ _ => trivial) ?_
  intro b _
  refine l_q rfl (q_move rfl rfl) rfl rfl ?_
  refine l_q rfl (q_extract rfl rfl rfl) rfl rfl ?_
  refine l_q rfl (q_extract rfl rfl rfl) rfl rfl ?_
  refine l_q rfl (q_assign rfl rfl) rfl rfl ?_
  refine l_q rfl (q_assign rfl rfl) rfl rfl ?_
  refine l_nil ?_
  refine k_then ?_
  refine c_seq ?_
  refine c_seq ?_
  refine c_region _ rfl ?_
  refine l_q rfl (q_move rfl rfl) rfl rfl ?_
  refine l_q rfl (q_neq rfl rfl rfl) rfl rfl ?_
  refine l_q rfl (q_move rfl rfl) rfl rfl ?_
  refine Pre.setV (t := 5) (c := .int .i64 (k : Int)) rfl (congrArg (Value.int .i64) hk) ?_
  refine Pre.setB (t := 25) (c := false) rfl (rfl) ?_
  refine l_q rfl (q_move rfl rfl) rfl rfl ?_
  refine l_q rfl (q_eqp rfl Try.underlying24 rfl rfl) rfl rfl ?_
  refine l_q rfl (q_pick_f rfl rfl rfl) rfl rfl ?_
  refine l_nil ?_
  refine k_then ?_
  refine Pre.setB (t := 28) (c := false) rfl (rfl) ?_
  refine c_false rfl ?_
  refine c_skip ?_
  refine k_then ?_
  refine c_seq ?_
  refine c_seq ?_
  refine c_region _ rfl ?_
  refine l_q rfl (q_assign rfl rfl) rfl rfl ?_
  refine l_nil ?_
  refine k_then ?_
  refine c_block ?_
  refine c_loop2 (fun (i : Nat) (m : Tab) => [(1, va), (5, .int .i64 (k : Int)), (6, .pointer (some ⟨b, 0, none⟩)), (8, .int .i64 (i : Int))]) (fun (i : Nat) (m : Tab) => St w [] [cellsE b 55 (tabC m)]) (fun (i : Nat) (m : Tab) => i ≤ 200 ∧ Old k i m) (fun (i : Nat) (m : Tab) => 200 - i) (0) (newM k) ⟨by decide, old0 h1 h8⟩ (Sub.cons rfl (Sub.cons rfl (Sub.cons rfl (Sub.cons rfl (Sub.nil))))) (fun _ h => h) ?_
  intro i m hp
  refine c_seq ?_
  refine c_seq ?_
  obtain ⟨hi, hv⟩ := hp
  refine c_region _ rfl ?_
  refine l_q rfl (q_move rfl rfl) rfl rfl ?_
  refine l_q rfl (q_move rfl rfl) rfl rfl ?_
  refine l_q rfl (q_lenV rfl Try.underlying48 rfl (fun _ h => hl.keep h (by simp [dom]))) rfl rfl ?_
  refine l_q rfl (q_lss rfl rfl rfl) rfl rfl ?_
  refine l_q rfl (q_move rfl rfl) rfl rfl ?_
  refine Pre.caseB 33 rfl (fun hlt => ?_) (fun hlt => ?_)
  · simp only [decide_eq_true_eq, decide_eq_false_iff_not, Bool.not_eq_true', Bool.not_eq_false'] at hlt
    refine l_q rfl (q_move rfl rfl) rfl rfl ?_
    refine l_q rfl (q_lss rfl rfl rfl) rfl rfl ?_
    refine l_q rfl (q_pick_t rfl rfl rfl) rfl rfl ?_
    refine l_nil ?_
    refine k_then ?_
    refine Pre.caseB 36 rfl (fun hlt2 => ?_) (fun hlt2 => ?_)
    · simp only [decide_eq_true_eq, decide_eq_false_iff_not, Bool.not_eq_true', Bool.not_eq_false'] at hlt2
      obtain ⟨x, hx⟩ : ∃ x, l[i]? = some x := ⟨_, List.getElem?_eq_getElem (by omega)⟩
      have hb := hbd x (List.mem_of_getElem? hx)
      obtain ⟨xx, rfl⟩ := Int.eq_ofNat_of_zero_le hb.1
      obtain ⟨jj, hjj⟩ : ∃ jj, jj = (xx / 2) % k := ⟨_, rfl⟩
      have hjk : jj < k := by rw [hjj]; exact Nat.mod_lt _ h1
      have hjI : ((xx / 2 : Nat) : Int) % (k : Int) = (jj : Int) := by rw [hjj]; exact (Int.natCast_emod (xx / 2) k).symm
      have hx2 : IntKind.u8.wrap ((xx : Int).tdiv 2) = ((xx / 2 : Nat) : Int) := by rw [Int.tdiv_eq_ediv_of_nonneg (by omega), wrapu8_in' (by omega)]; omega
      refine c_true rfl ?_
      refine c_skip ?_
      refine k_then ?_
      refine c_seq ?_
      refine c_block ?_
      refine c_seq ?_
      refine c_region _ rfl ?_
      refine l_q rfl (q_move rfl rfl) rfl rfl ?_
      refine l_q rfl (q_move rfl rfl) rfl rfl ?_
      refine l_q rfl (q_indexV i rfl Try.underlying48 Try.sizeOf5 rfl (fun _ h => hl.keep h (by simp [dom])) rfl rfl (by omega)) rfl rfl ?_
      refine l_q rfl (q_loadV i 0 rfl Try.isAgg5 rfl rfl (fun _ h => hl.keep h (by simp [dom])) hx rfl) rfl rfl ?_
      refine l_q rfl (q_quo rfl rfl rfl (by decide)) rfl rfl ?_
      refine Pre.setV (t := 43) (c := .int .u8 ((xx / 2 : Nat) : Int)) rfl (congrArg (Value.int .u8) hx2) ?_
      refine l_q rfl (q_conv_in rfl Try.underlying5 Try.underlying3 rfl (by first | rfl | (simp only [IntKind.wrap]; omega) | exact wrap64_in (by omega))) rfl rfl ?_
      refine l_q rfl (q_move rfl rfl) rfl rfl ?_
      refine l_q rfl (q_rem_nn rfl rfl rfl (by omega) (by omega)) rfl rfl ?_
      refine l_q rfl (q_assign rfl rfl) rfl rfl ?_
      refine l_nil ?_
      refine k_then ?_
      refine c_seq ?_
      refine c_seq ?_
      refine c_region _ rfl ?_
      refine Pre.setV (t := 9) (c := .int .i64 (jj : Int)) rfl (congrArg (Value.int .i64) hjI) ?_
      refine l_q rfl (q_move rfl rfl) rfl rfl ?_
      refine l_q rfl (q_move rfl rfl) rfl rfl ?_
      refine l_q rfl (q_indexV i rfl Try.underlying48 Try.sizeOf5 rfl (fun _ h => hl.keep h (by simp [dom])) rfl rfl (by omega)) rfl rfl ?_
      refine l_q rfl (q_loadV i 0 rfl Try.isAgg5 rfl rfl (fun _ h => hl.keep h (by simp [dom])) hx rfl) rfl rfl ?_
      refine l_q rfl (q_rem_nn rfl rfl rfl (by omega) (by omega)) rfl rfl ?_
      refine l_q rfl (q_eql rfl rfl rfl) rfl rfl ?_
      refine l_nil ?_
      refine k_then ?_
      refine c_meet1 (fun (m1 : Tab) => [(1, va), (5, .int .i64 (k : Int)), (6, .pointer (some ⟨b, 0, none⟩)), (8, .int .i64 (i : Int)), (9, .int .i64 (jj : Int))]) (fun (m1 : Tab) => St w [] [cellsE b 55 (tabC m1)]) (fun (m1 : Tab) => Old k i m1) ?_ ?_
      · refine Pre.caseB 52 rfl (fun hb0 => ?_) (fun hb0 => ?_)
        · simp only [decide_eq_true_eq, decide_eq_false_iff_not, Bool.not_eq_true', Bool.not_eq_false'] at hb0
          refine c_true rfl ?_
          refine c_region _ rfl ?_
          refine l_q rfl (q_move rfl rfl) rfl rfl ?_
          refine l_q rfl (q_move rfl rfl) rfl rfl ?_
          refine l_e rfl ?_
          refine e_call_11 (block_spec hv.ok b jj) rfl rfl rfl Try.call16 rfl (fun _ _ => trivial) ?_
          intro _ _
          refine l_nil ?_
          exact k_meet (_) (old_turn hv hjk (.inr rfl)) (Sub.cons rfl (Sub.cons rfl (Sub.cons rfl (Sub.cons rfl (Sub.cons rfl (Sub.nil)))))) (fun _ h => h)
        · simp only [decide_eq_true_eq, decide_eq_false_iff_not, Bool.not_eq_true', Bool.not_eq_false'] at hb0
          refine c_false rfl ?_
          refine c_skip ?_
          exact k_meet (_) hv (Sub.cons rfl (Sub.cons rfl (Sub.cons rfl (Sub.cons rfl (Sub.cons rfl (Sub.nil)))))) (fun _ h => h)
      · intro m1 hv1
        refine c_seq ?_
        refine c_seq ?_
        refine c_region _ rfl ?_
        refine l_q rfl (q_move rfl rfl) rfl rfl ?_
        refine l_q rfl (q_move rfl rfl) rfl rfl ?_
        refine l_q rfl (q_indexV i rfl Try.underlying48 Try.sizeOf5 rfl (fun _ h => hl.keep h (by simp [dom])) rfl rfl (by omega)) rfl rfl ?_
        refine l_q rfl (q_loadV i 0 rfl Try.isAgg5 rfl rfl (fun _ h => hl.keep h (by simp [dom])) hx rfl) rfl rfl ?_
        refine l_q rfl (q_rem_nn rfl rfl rfl (by omega) (by omega)) rfl rfl ?_
        refine l_q rfl (q_eql rfl rfl rfl) rfl rfl ?_
        refine l_nil ?_
        refine k_then ?_
        refine c_meet1 (fun (m2 : Tab) => [(1, va), (5, .int .i64 (k : Int)), (6, .pointer (some ⟨b, 0, none⟩)), (8, .int .i64 (i : Int)), (9, .int .i64 (jj : Int))]) (fun (m2 : Tab) => St w [] [cellsE b 55 (tabC m2)]) (fun (m2 : Tab) => Old k i m2) ?_ ?_
        · refine Pre.caseB 61 rfl (fun hb1 => ?_) (fun hb1 => ?_)
          · simp only [decide_eq_true_eq, decide_eq_false_iff_not, Bool.not_eq_true', Bool.not_eq_false'] at hb1
            refine c_true rfl ?_
            refine c_region _ rfl ?_
            refine l_q rfl (q_move rfl rfl) rfl rfl ?_
            refine l_q rfl (q_move rfl rfl) rfl rfl ?_
            refine l_e rfl ?_
            refine e_call_11 (wake_spec hv1.ok b jj) rfl rfl rfl Try.call18 rfl (fun _ _ => trivial) ?_
            intro _ _
            refine l_nil ?_
            exact k_meet (_) (old_turn hv1 hjk (.inl rfl)) (Sub.cons rfl (Sub.cons rfl (Sub.cons rfl (Sub.cons rfl (Sub.cons rfl (Sub.nil)))))) (fun _ h => h)
          · simp only [decide_eq_true_eq, decide_eq_false_iff_not, Bool.not_eq_true', Bool.not_eq_false'] at hb1
            refine c_false rfl ?_
            refine c_skip ?_
            exact k_meet (_) hv1 (Sub.cons rfl (Sub.cons rfl (Sub.cons rfl (Sub.cons rfl (Sub.cons rfl (Sub.nil)))))) (fun _ h => h)
        · intro m2 hv2
          refine c_seq ?_
          refine c_region _ rfl ?_
          refine l_q rfl (q_move rfl rfl) rfl rfl ?_
          refine l_e rfl ?_
          refine e_call_12 (runnable_spec hv2.ok b) rfl rfl rfl Try.call24 rfl (fun _ _ => trivial) ?_
          intro vl _
          refine l_q rfl (q_assign rfl rfl) rfl rfl ?_
          refine l_nil ?_
          refine k_then ?_
          refine c_seq ?_
          refine c_region _ rfl ?_
          refine l_q rfl (q_assign rfl rfl) rfl rfl ?_
          refine l_nil ?_
          refine k_then ?_
          refine c_seq ?_
          refine c_seq ?_
          refine c_region _ rfl ?_
          refine l_q rfl (q_assign rfl rfl) rfl rfl ?_
          refine l_nil ?_
          refine k_then ?_
          refine c_block ?_
          have hnl := nints_len (runM m2)
          have hrl := runM_len m2
          have hm2n := hv2.n
          refine c_loop2 (fun (ai : Nat) (xi : Nat) => [(1, va), (5, .int .i64 (k : Int)), (6, .pointer (some ⟨b, 0, none⟩)), (8, .int .i64 (i : Int)), (10, vl), (11, .int .i64 (ai : Int)), (12, .int .i64 (xi : Int))]) (fun (ai : Nat) (xi : Nat) => St w [] [rowE vl 3 (encI .i64) (nints (runM m2)), cellsE b 55 (tabC m2)]) (fun (ai : Nat) (xi : Nat) => xi ≤ (runM m2).length ∧ (runM m2 ≠ [] → ai < (runM m2).length) ∧ ∀ y a b, y < xi → (runM m2)[y]? = some a → (runM m2)[ai]? = some b → m2.wt.getD a 0 ≤ m2.wt.getD b 0) (fun (ai : Nat) (xi : Nat) => (runM m2).length - xi) (0) (0) ⟨Nat.zero_le _, fun h => List.length_pos_iff.2 h, fun y _ _ h => absurd h (Nat.not_lt_zero _)⟩ (Sub.cons rfl (Sub.cons rfl (Sub.cons rfl (Sub.cons rfl (Sub.cons rfl (Sub.cons rfl (Sub.cons rfl (Sub.nil)))))))) (fun _ h => h) ?_
          intro ai xi hq
          refine c_seq ?_
          refine c_seq ?_
          obtain ⟨hxi, hai, hmx⟩ := hq
          refine c_region _ rfl ?_
          refine l_q rfl (q_move rfl rfl) rfl rfl ?_
          refine l_q rfl (q_move rfl rfl) rfl rfl ?_
          refine l_q rfl (q_lenV rfl Try.underlying42 rfl (fun _ h => h.rd 0 rfl)) rfl rfl ?_
          refine l_q rfl (q_lss rfl rfl rfl) rfl rfl ?_
          refine l_nil ?_
          refine k_then ?_
          refine Pre.caseB 70 rfl (fun hxl => ?_) (fun hxl => ?_)
          · simp only [decide_eq_true_eq, decide_eq_false_iff_not, Bool.not_eq_true', Bool.not_eq_false'] at hxl
            have hxl2 : xi < (runM m2).length := by omega
            have hal := hai (List.length_pos_iff.1 (by omega))
            obtain ⟨ja, hja⟩ : ∃ z, (runM m2)[ai]? = some z := ⟨_, List.getElem?_eq_getElem hal⟩
            obtain ⟨jx, hjx⟩ : ∃ z, (runM m2)[xi]? = some z := ⟨_, List.getElem?_eq_getElem hxl2⟩
            have hga := nints_get hja
            have hgx := nints_get hjx
            have lja := runM_lt (List.mem_of_getElem? hja)
            have ljx := runM_lt (List.mem_of_getElem? hjx)
            have ia : 0 ≤ (ja : Int) ∧ (ja : Int) < m2.n := by omega
            have ix : 0 ≤ (jx : Int) ∧ (jx : Int) < m2.n := by omega
            refine c_true rfl ?_
            refine c_skip ?_
            refine k_then ?_
            refine c_seq ?_
            refine c_block ?_
            refine c_seq ?_
            refine c_draw [(0, some true), (1, some true), (2, some true), (3, some true), (4, some true), (6, some true), (7, some true), (8, some true), (9, some true), (10, some true), (5, some false), (11, some false), (12, some true)] [] [(_, some true), (_, some true), (_, some true), (_, some true), (_, some true), (_, some true), (_, some true), (_, some true), (_, some true), (_, some true), (_, some false), (_, some false), (_, some true)] (fun w => RdV w vl (encI .i64) (nints (runM m2))) (blind_then (blind_block (blind_then (blind_then (blind_block (blind_then (blind_block (blind_then (blind_then (blind_block (blind_then blind_body))))))))))) rfl (by kernel_rfl) (by kernel_rfl) rfl rfl rfl (by kernel_rfl) St.drawn (fun _ h => h.rd 0 rfl) ?_
            refine d_q rfl (q_move rfl rfl) rfl rfl ?_
            refine d_q rfl (q_move rfl rfl) rfl rfl ?_
            refine d_q rfl (q_move rfl rfl) rfl rfl ?_
            refine d_q rfl (q_indexV xi rfl Try.underlying42 Try.sizeOf3 rfl (fun _ h => h) rfl rfl (by omega)) rfl rfl ?_
            refine d_q rfl (q_loadV xi 0 rfl Try.isAgg3 rfl rfl (fun _ h => h) hgx rfl) rfl rfl ?_
            refine d_q rfl (q_move rfl rfl) rfl rfl ?_
            refine d_q rfl (q_move rfl rfl) rfl rfl ?_
            refine d_q rfl (q_move rfl rfl) rfl rfl ?_
            refine d_q rfl (q_indexV ai rfl Try.underlying42 Try.sizeOf3 rfl (fun _ h => h) rfl rfl (by omega)) rfl rfl ?_
            refine d_q rfl (q_loadV ai 0 rfl Try.isAgg3 rfl rfl (fun _ h => h) hga rfl) rfl rfl ?_
            refine pull1 ?_
            refine d_e rfl ?_
            refine e_call_11 (wait_spec hv2.ok b jx) rfl rfl rfl Try.call12 rfl (fun _ _ => trivial) ?_
            intro _ _
            refine d_held (fun _ h => h.rd 1 rfl) ?_
            refine d_e rfl ?_
            refine e_call_11 (wait_spec hv2.ok b ja) rfl rfl rfl Try.call12 rfl (fun _ _ => trivial) ?_
            intro _ _
            refine d_held (fun _ h => h.rd 1 rfl) ?_
            refine d_q rfl (q_gtr rfl rfl rfl) rfl rfl ?_
            refine d_nil ?_
            refine k_then ?_
            refine Pre.caseB 85 rfl (fun hgt => ?_) (fun hgt => ?_)
            · simp only [decide_eq_true_eq, decide_eq_false_iff_not, Bool.not_eq_true', Bool.not_eq_false'] at hgt
              rw [if_pos ia, if_pos ix, Int.toNat_natCast, Int.toNat_natCast] at hgt
              refine c_true rfl ?_
              refine c_region _ rfl ?_
              refine l_q rfl (q_move rfl rfl) rfl rfl ?_
              refine l_q rfl (q_assign rfl rfl) rfl rfl ?_
              refine l_nil ?_
              refine k_block ?_
              refine k_then ?_
              refine c_region _ rfl ?_
              refine l_q rfl (q_move rfl rfl) rfl rfl ?_
              refine l_q rfl (q_inc rfl rfl rfl (by omega)) rfl rfl ?_
              refine l_q rfl (q_assign rfl rfl) rfl rfl ?_
              refine l_nil ?_
              refine pull1 ?_
              exact k_round ((xi, xi + 1)) (by dsimp only; omega) ⟨by dsimp only; omega, fun _ => hxl2, fun y a b hy ha hb => by rw [hjx] at hb; cases hb; rcases Nat.lt_succ_iff_lt_or_eq.1 hy with h | h; exact Int.le_trans (hmx y a ja h ha hja) (by omega); subst h; rw [hjx] at ha; cases ha; exact Int.le_refl _⟩ (Sub.cons rfl (Sub.cons rfl (Sub.cons rfl (Sub.cons rfl (Sub.cons rfl (Sub.cons rfl (Sub.cons rfl (Sub.nil)))))))) (fun _ h => h)
            · simp only [decide_eq_true_eq, decide_eq_false_iff_not, Bool.not_eq_true', Bool.not_eq_false'] at hgt
              rw [if_pos ia, if_pos ix, Int.toNat_natCast, Int.toNat_natCast] at hgt
              refine c_false rfl ?_
              refine c_skip ?_
              refine k_block ?_
              refine k_then ?_
              refine c_region _ rfl ?_
              refine l_q rfl (q_move rfl rfl) rfl rfl ?_
              refine l_q rfl (q_inc rfl rfl rfl (by omega)) rfl rfl ?_
              refine l_q rfl (q_assign rfl rfl) rfl rfl ?_
              refine l_nil ?_
              refine pull1 ?_
              exact k_round ((ai, xi + 1)) (by dsimp only; omega) ⟨by dsimp only; omega, fun _ => hal, fun y a b hy ha hb => by rw [hja] at hb; cases hb; rcases Nat.lt_succ_iff_lt_or_eq.1 hy with h | h; exact hmx y a ja h ha hja; subst h; rw [hjx] at ha; cases ha; omega⟩ (Sub.cons rfl (Sub.cons rfl (Sub.cons rfl (Sub.cons rfl (Sub.cons rfl (Sub.cons rfl (Sub.cons rfl (Sub.nil)))))))) (fun _ h => h)
          · simp only [decide_eq_true_eq, decide_eq_false_iff_not, Bool.not_eq_true', Bool.not_eq_false'] at hxl
            have hxe : xi = (runM m2).length := by omega
            subst hxe
            have hv3 := old_pick hv2 h1 (ai : Int) (fun j hj => by obtain ⟨y, hy⟩ := List.getElem?_of_mem hj; have hyl := (List.getElem?_eq_some_iff.1 hy).1; have hal := hai (List.ne_nil_of_mem hj); have hb := List.getElem?_eq_getElem hal; rw [who_at hb]; exact hmx y j _ hyl hy hb)
            refine c_false rfl ?_
            refine c_exit ?_
            refine k_then_exit ?_
            refine k_then_exit ?_
            refine k_block_exit ?_
            refine k_then ?_
            refine c_seq ?_
            refine c_region _ rfl ?_
            refine l_q rfl (q_move rfl rfl) rfl rfl ?_
            refine l_q rfl (q_move rfl rfl) rfl rfl ?_
            refine pull1 ?_
            refine l_e rfl ?_
            refine e_call_11 (pick_spec hv2.ok (by omega) b (ai : Int)) rfl rfl rfl Try.call10 rfl (fun _ _ => trivial) ?_
            intro _ _
            refine l_q rfl (q_move rfl rfl) rfl rfl ?_
            refine l_q rfl (q_extract rfl rfl rfl) rfl rfl ?_
            refine l_q rfl (q_extract rfl rfl rfl) rfl rfl ?_
            refine l_q rfl (q_assign rfl rfl) rfl rfl ?_
            refine l_q rfl (q_assign rfl rfl) rfl rfl ?_
            refine l_nil ?_
            refine k_then ?_
            refine c_seq ?_
            refine c_region _ rfl ?_
            refine l_q rfl (q_move rfl rfl) rfl rfl ?_
            refine l_q rfl (q_move rfl rfl) rfl rfl ?_
            refine l_q rfl (q_lenV rfl Try.underlying42 rfl (fun _ h => h.rd 1 rfl)) rfl rfl ?_
            refine l_q rfl (q_gtr rfl rfl rfl) rfl rfl ?_
            refine l_q rfl (q_neb rfl Try.underlying4 rfl rfl) rfl rfl ?_
            refine l_q rfl (q_move rfl rfl) rfl rfl ?_
            have hne : (decide (runM m2 ≠ []) == decide ((0 : Int) < ((nints (runM m2)).length : Int))) = true := by rw [beq_iff_eq, Bool.eq_iff_iff, decide_eq_true_eq, decide_eq_true_eq, ← List.length_pos_iff]; omega
            refine Pre.setB (t := 98) (c := false) rfl (by rw [hne]; rfl) ?_
            refine l_q rfl (q_move rfl rfl) rfl rfl ?_
            refine l_q rfl (q_move rfl rfl) rfl rfl ?_
            refine Pre.caseB 100 rfl (fun hrn => ?_) (fun hrn => ?_)
            · simp only [decide_eq_true_eq, decide_eq_false_iff_not] at hrn
              obtain ⟨ja, hja⟩ : ∃ z, (runM m2)[ai]? = some z := ⟨_, List.getElem?_eq_getElem (hai hrn)⟩
              have hwa := who_at hja
              have hal := hai hrn
              refine l_q rfl (q_move rfl rfl) rfl rfl ?_
              refine l_q rfl (q_move rfl rfl) rfl rfl ?_
              refine l_q rfl (q_move rfl rfl) rfl rfl ?_
              refine l_q rfl (q_indexV ai rfl Try.underlying42 Try.sizeOf3 rfl (fun _ h => h.rd 1 rfl) rfl rfl (by omega)) rfl rfl ?_
              refine l_q rfl (q_loadV ai 0 rfl Try.isAgg3 rfl rfl (fun _ h => h.rd 1 rfl) (nints_get hja) rfl) rfl rfl ?_
              refine l_q rfl (q_neq rfl rfl rfl) rfl rfl ?_
              refine l_q rfl (q_pick_t rfl rfl rfl) rfl rfl ?_
              refine l_q rfl (q_pick_f rfl rfl rfl) rfl rfl ?_
              refine l_nil ?_
              refine k_then ?_
              refine Pre.setB (t := 108) (c := false) rfl (by rw [hwa]; simp) ?_
              refine c_false rfl ?_
              refine c_skip ?_
              refine k_block ?_
              refine k_then ?_
              refine c_region _ rfl ?_
              refine l_q rfl (q_move rfl rfl) rfl rfl ?_
              refine l_q rfl (q_inc rfl rfl rfl (by omega)) rfl rfl ?_
              refine l_q rfl (q_assign rfl rfl) rfl rfl ?_
              refine l_nil ?_
              refine pull1 ?_
              refine drop0 ?_
              exact k_round ((i + 1, pickM m2 ai)) (by dsimp only; omega) ⟨by dsimp only; omega, hv3⟩ (Sub.cons rfl (Sub.cons rfl (Sub.cons rfl (Sub.cons rfl (Sub.nil))))) (fun _ h => h)
            · simp only [decide_eq_true_eq, decide_eq_false_iff_not] at hrn
              refine l_not rfl rfl rfl ?_
              refine l_not rfl rfl rfl ?_
              refine l_not rfl rfl rfl ?_
              refine l_not rfl rfl rfl ?_
              refine l_not rfl rfl rfl ?_
              refine l_not rfl rfl rfl ?_
              refine l_q rfl (q_pick_f rfl rfl rfl) rfl rfl ?_
              refine l_q rfl (q_pick_f rfl rfl rfl) rfl rfl ?_
              refine l_nil ?_
              refine k_then ?_
              refine c_false rfl ?_
              refine c_skip ?_
              refine k_block ?_
              refine k_then ?_
              refine c_region _ rfl ?_
              refine l_q rfl (q_move rfl rfl) rfl rfl ?_
              refine l_q rfl (q_inc rfl rfl rfl (by omega)) rfl rfl ?_
              refine l_q rfl (q_assign rfl rfl) rfl rfl ?_
              refine l_nil ?_
              refine pull1 ?_
              refine drop0 ?_
              exact k_round ((i + 1, pickM m2 ai)) (by dsimp only; omega) ⟨by dsimp only; omega, hv3⟩ (Sub.cons rfl (Sub.cons rfl (Sub.cons rfl (Sub.cons rfl (Sub.nil))))) (fun _ h => h)
    · simp only [decide_eq_true_eq, decide_eq_false_iff_not, Bool.not_eq_true', Bool.not_eq_false'] at hlt2
      have hwr := hv.worst
      refine c_false rfl ?_
      refine c_exit ?_
      refine k_then_exit ?_
      refine k_then_exit ?_
      refine k_block_exit ?_
      refine k_then ?_
      refine c_seq ?_
      refine c_region _ rfl ?_
      refine l_q rfl (q_move rfl rfl) rfl rfl ?_
      refine l_e rfl ?_
      refine e_call_11 (worst_spec hv.ok b) rfl rfl rfl Try.call13 rfl (fun _ _ => trivial) ?_
      intro _ _
      refine l_q rfl (q_move rfl rfl) rfl rfl ?_
      refine l_q rfl (q_sub64 rfl rfl rfl (by omega)) rfl rfl ?_
      refine l_q rfl (q_leq rfl rfl rfl) rfl rfl ?_
      refine l_q rfl (q_move rfl rfl) rfl rfl ?_
      refine Pre.setB (t := 114) (c := true) rfl (decide_eq_true (by omega)) ?_
      refine l_e rfl ?_
      refine e_call_00 (awake_spec) rfl rfl rfl Try.call14 rfl (fun _ _ => trivial) ?_
      intro _ _
      refine l_q rfl (q_pick_t rfl rfl rfl) rfl rfl ?_
      refine l_q rfl (q_assign rfl rfl) rfl rfl ?_
      refine l_nil ?_
      refine k_then ?_
      refine c_ret ?_
      refine r_one rfl rfl ?_
      exact fun _ h => ⟨(), rfl, trivial, h.nothing⟩
  · simp only [decide_eq_true_eq, decide_eq_false_iff_not, Bool.not_eq_true', Bool.not_eq_false'] at hlt
    have hwr := hv.worst
    refine l_not rfl rfl rfl ?_
    refine l_not rfl rfl rfl ?_
    refine l_q rfl (q_pick_f rfl rfl rfl) rfl rfl ?_
    refine l_nil ?_
    refine k_then ?_
    refine c_false rfl ?_
    refine c_exit ?_
    refine k_then_exit ?_
    refine k_then_exit ?_
    refine k_block_exit ?_
    refine k_then ?_
    refine c_seq ?_
    refine c_region _ rfl ?_
    refine l_q rfl (q_move rfl rfl) rfl rfl ?_
    refine l_e rfl ?_
    refine e_call_11 (worst_spec hv.ok b) rfl rfl rfl Try.call13 rfl (fun _ _ => trivial) ?_
    intro _ _
    refine l_q rfl (q_move rfl rfl) rfl rfl ?_
    refine l_q rfl (q_sub64 rfl rfl rfl (by omega)) rfl rfl ?_
    refine l_q rfl (q_leq rfl rfl rfl) rfl rfl ?_
    refine l_q rfl (q_move rfl rfl) rfl rfl ?_
    refine Pre.setB (t := 114) (c := true) rfl (decide_eq_true (by omega)) ?_
    refine l_e rfl ?_
    refine e_call_00 (awake_spec) rfl rfl rfl Try.call14 rfl (fun _ _ => trivial) ?_
    intro _ _
    refine l_q rfl (q_pick_t rfl rfl rfl) rfl rfl ?_
    refine l_q rfl (q_assign rfl rfl) rfl rfl ?_
    refine l_nil ?_
    refine k_then ?_
    refine c_ret ?_
    refine r_one rfl rfl ?_
    exact fun _ h => ⟨(), rfl, trivial, h.nothing⟩
theorem schedOldest_walk (w : World) (a0 : Int) (w0 : (Lit.int .i64 a0).wf = true) (A1 : Option Addr) (c1 : Nat) (z1 : List Int) (rd1 : Rd w w.heap.size A1 (z1.map (.int .u8))) (l1 : z1.length ≤ c1) (m1 : c1 ≤ maxLen) (w1 : ∀ z ∈ z1, (Lit.int .u8 z).wf = true) :
    Calls Try.prog 7 #[.int .i64 a0, .slice A1 z1.length c1] w fun e w' => e = .returned (.bool true) ∧ Below w.heap.size w w' := by
  have h := flat_one' (encI .u8) (Value.int .u8) (fun _ => rfl) z1
  rw [← h] at rd1
  exact con_walk (oldest_spec a0 z1 (fun z hz => wf_u8 (w1 z hz))) (rdv_of rd1 l1)
end Go.Proofs.Ytjanmpghcigigaa
