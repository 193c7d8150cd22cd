/- sched: plain facts of picks -/
import Derived.Test.YtjanmpghcigigaaF
set_option linter.unusedVariables false
set_option linter.unusedSimpArgs false
namespace Go.Proofs.Ytjanmpghcigigaa
open Go.Sep Go.RowKit

/-- What a pick does to waits. -/
theorem stepsM_wt (t : Nat) : ∀ (l : List Nat) (m : Tab) (j : Nat), l.Nodup → (∀ x ∈ l, x < m.wt.length) → (stepsM t m l).wt.getD j 0 = if j ∈ l ∧ j ≠ t then m.wt.getD j 0 + 1 else m.wt.getD j 0
  | [], m, j, _, _ => by simp [stepsM]
  | x :: l, m, j, hn, hl => by
    have hn' := List.nodup_cons.1 hn
    have hx := hl x (List.mem_cons_self ..)
    have hlen : (stepM t m x).wt.length = m.wt.length := by unfold stepM; split <;> simp
    have ih := stepsM_wt t l (stepM t m x) j hn'.2 (fun y hy => by rw [hlen]; exact hl y (List.mem_cons_of_mem _ hy))
    show (stepsM t (stepM t m x) l).wt.getD j 0 = _
    rw [ih]
    have hs : (stepM t m x).wt.getD j 0 = if x = j ∧ x ≠ t then m.wt.getD j 0 + 1 else m.wt.getD j 0 := by
      unfold stepM
      by_cases hxt : x = t
      · rw [if_pos hxt, if_neg (fun h => h.2 hxt)]
      · rw [if_neg hxt]
        show (m.wt.set x (m.wt.getD x 0 + 1)).getD j 0 = _
        rw [getD_set]
        by_cases hxj : x = j
        · subst hxj; rw [if_pos ⟨rfl, hx⟩, if_pos ⟨rfl, hxt⟩]
        · rw [if_neg (fun h => hxj h.1), if_neg (fun h => hxj h.1)]
    rw [hs]
    by_cases hxj : x = j
    · subst hxj
      rw [if_neg (fun h => hn'.1 h.1)]
      by_cases hxt : x = t
      · rw [if_neg (fun h => h.2 hxt), if_neg (fun h => h.2 hxt)]
      · rw [if_pos ⟨rfl, hxt⟩, if_pos ⟨List.mem_cons_self .., hxt⟩]
    · have hf : ¬ (x = j ∧ x ≠ t) := fun h => hxj h.1
      simp only [if_neg hf]
      have e : (j ∈ x :: l ∧ j ≠ t) ↔ (j ∈ l ∧ j ≠ t) := by
        simp only [List.mem_cons]
        constructor
        · rintro ⟨h | h, h2⟩
          · exact absurd h.symm hxj
          · exact ⟨h, h2⟩
        · rintro ⟨h, h2⟩; exact ⟨.inr h, h2⟩
      simp only [e]
theorem stepsM_worst (t : Nat) (B : Int) : ∀ (l : List Nat) (m : Tab), l.Nodup → (∀ x ∈ l, x < m.wt.length) → ((stepsM t m l).worst ≤ B ↔ m.worst ≤ B ∧ ∀ j ∈ l, j ≠ t → m.wt.getD j 0 + 1 ≤ B)
  | [], m, _, _ => by simp [stepsM]
  | x :: l, m, hn, hl => by
    have hn' := List.nodup_cons.1 hn
    have hx := hl x (List.mem_cons_self ..)
    have hlen : (stepM t m x).wt.length = m.wt.length := by unfold stepM; split <;> simp
    have ih := stepsM_worst t B l (stepM t m x) hn'.2 (fun y hy => by rw [hlen]; exact hl y (List.mem_cons_of_mem _ hy))
    show (stepsM t (stepM t m x) l).worst ≤ B ↔ _
    rw [ih]
    have hw : ∀ j ∈ l, (stepM t m x).wt.getD j 0 = m.wt.getD j 0 := fun j hj => by
      unfold stepM
      split
      · rfl
      · show (m.wt.set x _).getD j 0 = _
        rw [getD_set, if_neg (fun h : x = j ∧ x < m.wt.length => hn'.1 (h.1 ▸ hj))]
    have hws : (stepM t m x).worst ≤ B ↔ m.worst ≤ B ∧ (x ≠ t → m.wt.getD x 0 + 1 ≤ B) := by
      unfold stepM
      by_cases hxt : x = t
      · rw [if_pos hxt]; exact ⟨fun h => ⟨h, fun h2 => absurd hxt h2⟩, fun h => h.1⟩
      · rw [if_neg hxt]
        show (if _ > m.worst then _ else m.worst) ≤ B ↔ _
        constructor
        · intro h; split at h <;> exact ⟨by omega, fun _ => by omega⟩
        · rintro ⟨h1, h2⟩; have := h2 hxt; split <;> omega
    rw [hws]
    simp only [List.mem_cons]
    constructor
    · rintro ⟨⟨h1, h2⟩, h3⟩
      refine ⟨h1, fun j hj hjt => ?_⟩
      rcases hj with rfl | hj
      · exact h2 hjt
      · rw [← hw j hj]; exact h3 j hj hjt
    · rintro ⟨h1, h2⟩
      exact ⟨⟨h1, fun h => h2 x (.inl rfl) h⟩, fun j hj hjt => by rw [hw j hj]; exact h2 j (.inr hj) hjt⟩
section
variable {m : Tab} {c : Int} (h : m.Ok c) {p : Int} (hr : runM m ≠ [])
include h hr
theorem pick_wt (j : Nat) (hj : j < m.n) : (pickM m p).wt.getD j 0 = if j = whoM m p then 0 else if m.st.getD j 0 = 0 then m.wt.getD j 0 + 1 else m.wt.getD j 0 := by
  unfold pickM
  rw [if_neg hr]
  have hlen : (stepsM (whoM m p) m (runM m)).wt.length = m.n := by
    have := (steps_ok (whoM m p) (runM m) h (fun x hx => runM_lt hx)).wt
    rw [this, steps_n]
  show ((stepsM (whoM m p) m (runM m)).wt.set (whoM m p) 0).getD j 0 = _
  rw [getD_set, stepsM_wt _ _ _ _ (runM_nodup m) (fun x hx => by rw [h.wt]; exact runM_lt hx), hlen]
  have hw := runM_lt (who_mem p hr)
  by_cases e : j = whoM m p
  · rw [if_pos ⟨e.symm, hw⟩, if_pos e]
  · rw [if_neg (fun x => e x.1.symm), if_neg e]
    have : (j ∈ runM m ∧ j ≠ whoM m p) ↔ m.st.getD j 0 = 0 := by
      simp only [runM, List.mem_filter, List.mem_range, decide_eq_true_eq]
      exact ⟨fun x => x.1.2, fun x => ⟨⟨hj, x⟩, e⟩⟩
    simp only [this]
theorem pick_pk (j : Nat) (hj : j < m.n) : (pickM m p).pk.getD j 0 = if j = whoM m p then m.pk.getD j 0 + 1 else m.pk.getD j 0 := by
  unfold pickM
  rw [if_neg hr]
  show ((stepsM (whoM m p) m (runM m)).pk.set (whoM m p) ((stepsM (whoM m p) m (runM m)).pk.getD (whoM m p) 0 + 1)).getD j 0 = _
  rw [steps_pk, getD_set]
  have hw := runM_lt (who_mem p hr)
  by_cases e : j = whoM m p
  · rw [if_pos ⟨e.symm, by rw [h.pk]; exact hw⟩, if_pos e, e]
  · rw [if_neg (fun x => e x.1.symm), if_neg e]
omit h in
theorem pick_st : (pickM m p).st = m.st := by
  unfold pickM
  rw [if_neg hr]
  exact steps_st _ _ _
theorem pick_worst (B : Int) : (pickM m p).worst ≤ B ↔ m.worst ≤ B ∧ ∀ j, j < m.n → m.st.getD j 0 = 0 → j ≠ whoM m p → m.wt.getD j 0 + 1 ≤ B := by
  unfold pickM
  rw [if_neg hr]
  show (stepsM (whoM m p) m (runM m)).worst ≤ B ↔ _
  rw [stepsM_worst _ _ _ _ (runM_nodup m) (fun x hx => by rw [h.wt]; exact runM_lt hx)]
  simp only [runM, List.mem_filter, List.mem_range, decide_eq_true_eq]
  exact ⟨fun x => ⟨x.1, fun j h1 h2 h3 => x.2 j ⟨h1, h2⟩ h3⟩, fun x => ⟨x.1, fun j h1 h3 => x.2 j h1.1 h1.2 h3⟩⟩
end
theorem turn_st {m : Tab} {c : Int} (h : m.Ok c) (i : Nat) {z : Int} (s : Int) (j : Nat) (hi : i < m.n) (hz : z = (i : Int) := by rfl) : (turnM m z s).st.getD j 0 = if j = i ∧ m.st.getD i 0 ≠ 2 then s else m.st.getD j 0 := by
  subst hz
  unfold turnM
  by_cases h2 : m.st.getD i 0 ≠ 2
  · rw [if_pos ⟨by omega, by omega, h2⟩]
    show (m.st.set i s).getD j 0 = _
    rw [getD_set]
    by_cases e : i = j
    · rw [if_pos ⟨e, by rw [h.st]; exact hi⟩, if_pos ⟨e.symm, h2⟩]
    · rw [if_neg (fun x => e x.1), if_neg (fun x => e x.1.symm)]
  · rw [if_neg (fun x => h2 x.2.2), if_neg (fun x => h2 x.2)]
theorem turn_wt {m : Tab} {c : Int} (h : m.Ok c) (i : Nat) {z : Int} (s : Int) (j : Nat) (hi : i < m.n) (hz : z = (i : Int) := by rfl) : (turnM m z s).wt.getD j 0 = if j = i ∧ m.st.getD i 0 ≠ 2 ∧ s ≠ 0 then 0 else m.wt.getD j 0 := by
  subst hz
  unfold turnM
  by_cases h2 : m.st.getD i 0 ≠ 2
  · rw [if_pos ⟨by omega, by omega, h2⟩]
    show (if s = 0 then m.wt else m.wt.set i 0).getD j 0 = _
    by_cases hs : s = 0
    · rw [if_pos hs, if_neg (fun x => x.2.2 hs)]
    · rw [if_neg hs, getD_set]
      by_cases e : i = j
      · rw [if_pos ⟨e, by rw [h.wt]; exact hi⟩, if_pos ⟨e.symm, h2, hs⟩]
      · rw [if_neg (fun x => e x.1), if_neg (fun x => e x.1.symm)]
  · rw [if_neg (fun x => h2 x.2.2), if_neg (fun x => h2 x.2.1)]
theorem turn_worst (m : Tab) (i s : Int) : (turnM m i s).worst = m.worst := by unfold turnM; split <;> rfl
theorem turn_pk (m : Tab) (i s : Int) : (turnM m i s).pk = m.pk := by unfold turnM; split <;> rfl
theorem run_mem {m : Tab} {k : Nat} : k ∈ runM m ↔ k < m.n ∧ m.st.getD k 0 = 0 := by simp [runM]
theorem run_all {m : Tab} (h : ∀ k, k < m.n → m.st.getD k 0 = 0) : runM m = List.range m.n := by
  unfold runM
  exact List.filter_eq_self.2 (fun k hk => by simpa using h k (List.mem_range.1 hk))
theorem rep_get (n : Nat) (k : Nat) : (List.replicate n (0 : Int)).getD k 0 = 0 := by
  simp only [List.getD_eq_getElem?_getD, List.getElem?_replicate]; split <;> rfl
theorem pick_none {m : Tab} {p : Int} (h : runM m = []) : pickM m p = m := by unfold pickM; rw [if_pos h]

end Go.Proofs.Ytjanmpghcigigaa
