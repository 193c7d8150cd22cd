/- sched: what a table is. -/
import Derived.Test.YtjanmpghcigigaaS7
set_option linter.unusedVariables false
set_option linter.unusedSimpArgs false
namespace Go.Proofs.Ytjanmpghcigigaa
open Go.Sep Go.RowKit

/-- A table of tasks: how many, states, waits, picks, the longest wait. -/
structure Tab where
  n : Nat
  st : List Int
  wt : List Int
  pk : List Int
  worst : Int
/-- Its rows have n entries, its numbers are no greater than c. -/
structure Tab.Ok (m : Tab) (c : Int) : Prop where
  n1 : 1 ≤ m.n
  n8 : m.n ≤ 8
  st : m.st.length = m.n
  wt : m.wt.length = m.n
  pk : m.pk.length = m.n
  wt0 : ∀ k, k < m.n → 0 ≤ m.wt.getD k 0 ∧ m.wt.getD k 0 ≤ c
  pk0 : ∀ k, k < m.n → 0 ≤ m.pk.getD k 0 ∧ m.pk.getD k 0 ≤ c
  w0 : 0 ≤ m.worst ∧ m.worst ≤ c
theorem Tab.Ok.mono {m : Tab} {c d : Int} (h : m.Ok c) (hd : c ≤ d) : m.Ok d := ⟨h.n1, h.n8, h.st, h.wt, h.pk, fun k hk => ⟨(h.wt0 k hk).1, Int.le_trans (h.wt0 k hk).2 hd⟩, fun k hk => ⟨(h.pk0 k hk).1, Int.le_trans (h.pk0 k hk).2 hd⟩, h.w0.1, Int.le_trans h.w0.2 hd⟩
def ints (l : List Int) : List Value := l.map (Value.int .i64)
def pad8 (l : List Int) : List Int := l ++ List.replicate (8 - l.length) 0
theorem pad8_len {l : List Int} (h : l.length ≤ 8) : (pad8 l).length = 8 := by simp [pad8]; omega
theorem pad8_get {l : List Int} {k : Nat} (h : k < l.length) : (pad8 l)[k]? = some (l.getD k 0) := by
  simp [pad8, List.getElem?_append_left h, List.getD_eq_getElem?_getD, h]
theorem pad8_set {l : List Int} {k : Nat} (h : k < l.length) (x : Int) : (pad8 l).set k x = pad8 (l.set k x) := by
  simp [pad8, List.set_append_left _ _ h]
/-- The table's cells. -/
def tabC (m : Tab) : List Value := [.int .i64 m.n] ++ (ints (pad8 m.st) ++ (ints (pad8 m.wt) ++ (ints (pad8 m.pk) ++ [.int .i64 m.worst])))
theorem ints_len (l : List Int) : (ints l).length = l.length := by simp [ints]
theorem ints_get (l : List Int) (k : Nat) : (ints l)[k]? = (l[k]?).map (Value.int .i64) := by simp [ints]
theorem ints_set (l : List Int) (k : Nat) (x : Int) : (ints l).set k (.int .i64 x) = ints (l.set k x) := by simp [ints, List.map_set]
section
variable {m : Tab} {c : Int} (h : m.Ok c)
include h
theorem Tab.Ok.l1 : (ints (pad8 m.st)).length = 8 := by rw [ints_len, pad8_len (by rw [h.st]; exact h.n8)]
theorem Tab.Ok.l2 : (ints (pad8 m.wt)).length = 8 := by rw [ints_len, pad8_len (by rw [h.wt]; exact h.n8)]
theorem Tab.Ok.l3 : (ints (pad8 m.pk)).length = 8 := by rw [ints_len, pad8_len (by rw [h.pk]; exact h.n8)]
theorem tab_len : (tabC m).length = 26 := by simp [tabC, h.l1, h.l2, h.l3]
theorem tab_st {off k : Nat} (hk : k < m.n) (ho : off = 1 + k) : (tabC m)[off]? = some (.int .i64 (m.st.getD k 0)) := by
  have h8 := h.n8
  have l1 := h.l1
  subst ho
  rw [tabC, List.getElem?_append_right (by simp), List.getElem?_append_left (by simp; omega)]
  simp only [List.length_singleton, Nat.add_sub_cancel_left]
  rw [ints_get, pad8_get (by rw [h.st]; exact hk)]; rfl
theorem tab_wt {off k : Nat} (hk : k < m.n) (ho : off = 9 + k) : (tabC m)[off]? = some (.int .i64 (m.wt.getD k 0)) := by
  have h8 := h.n8
  have l1 := h.l1
  have l2 := h.l2
  subst ho
  rw [tabC, List.getElem?_append_right (by simp; omega), List.getElem?_append_right (by simp; omega), List.getElem?_append_left (by simp; omega)]
  rw [l1, List.length_singleton, show 9 + k - 1 - 8 = k from by omega, ints_get, pad8_get (by rw [h.wt]; exact hk)]; rfl
theorem tab_pk {off k : Nat} (hk : k < m.n) (ho : off = 17 + k) : (tabC m)[off]? = some (.int .i64 (m.pk.getD k 0)) := by
  have h8 := h.n8
  have l1 := h.l1
  have l2 := h.l2
  have l3 := h.l3
  subst ho
  rw [tabC, List.getElem?_append_right (by simp; omega), List.getElem?_append_right (by simp; omega), List.getElem?_append_right (by simp; omega), List.getElem?_append_left (by simp; omega)]
  rw [l1, l2, List.length_singleton, show 17 + k - 1 - 8 - 8 = k from by omega, ints_get, pad8_get (by rw [h.pk]; exact hk)]; rfl
theorem tab_worst {off : Nat} (ho : off = 25) : (tabC m)[off]? = some (.int .i64 m.worst) := by
  have l1 := h.l1
  have l2 := h.l2
  have l3 := h.l3
  subst ho
  rw [tabC, List.getElem?_append_right (by simp), List.getElem?_append_right (by simp; omega), List.getElem?_append_right (by simp; omega), List.getElem?_append_right (by simp; omega)]
  rw [l1, l2, l3]; rfl
theorem set_st {off k : Nat} (x : Int) (hk : k < m.n) (ho : off = 1 + k) : (tabC m).set off (.int .i64 x) = tabC { m with st := m.st.set k x } := by
  have h8 := h.n8
  have l1 := h.l1
  subst ho
  unfold tabC
  rw [List.set_append_right _ _ (by simp), List.set_append_left _ _ (by simp; omega)]
  simp only [List.length_singleton, Nat.add_sub_cancel_left, ints_set]
  rw [pad8_set (by rw [h.st]; exact hk)]
theorem set_wt {off k : Nat} (x : Int) (hk : k < m.n) (ho : off = 9 + k) : (tabC m).set off (.int .i64 x) = tabC { m with wt := m.wt.set k x } := by
  have h8 := h.n8
  have l1 := h.l1
  have l2 := h.l2
  subst ho
  unfold tabC
  rw [List.set_append_right _ _ (by simp; omega), List.set_append_right _ _ (by simp; omega), List.set_append_left _ _ (by simp; omega)]
  rw [l1, List.length_singleton, show 9 + k - 1 - 8 = k from by omega, ints_set, pad8_set (by rw [h.wt]; exact hk)]
theorem set_pk {off k : Nat} (x : Int) (hk : k < m.n) (ho : off = 17 + k) : (tabC m).set off (.int .i64 x) = tabC { m with pk := m.pk.set k x } := by
  have h8 := h.n8
  have l1 := h.l1
  have l2 := h.l2
  have l3 := h.l3
  subst ho
  unfold tabC
  rw [List.set_append_right _ _ (by simp; omega), List.set_append_right _ _ (by simp; omega), List.set_append_right _ _ (by simp; omega), List.set_append_left _ _ (by simp; omega)]
  rw [l1, l2, List.length_singleton, show 17 + k - 1 - 8 - 8 = k from by omega, ints_set, pad8_set (by rw [h.pk]; exact hk)]
theorem set_worst {off : Nat} (x : Int) (ho : off = 25) : (tabC m).set off (.int .i64 x) = tabC { m with worst := x } := by
  have l1 := h.l1
  have l2 := h.l2
  have l3 := h.l3
  subst ho
  unfold tabC
  rw [List.set_append_right _ _ (by simp), List.set_append_right _ _ (by simp; omega), List.set_append_right _ _ (by simp; omega), List.set_append_right _ _ (by simp; omega)]
  rw [l1, l2, l3]; rfl
end
/-- A task is in a state, if it has not ended. -/
def turnM (m : Tab) (i s : Int) : Tab := if 0 ≤ i ∧ i < m.n ∧ m.st.getD i.toNat 0 ≠ 2 then { m with st := m.st.set i.toNat s, wt := if s = 0 then m.wt else m.wt.set i.toNat 0 } else m
theorem getD_set {l : List Int} {k j : Nat} {x : Int} : (l.set k x).getD j 0 = if k = j ∧ k < l.length then x else l.getD j 0 := by
  simp only [List.getD_eq_getElem?_getD, List.getElem?_set]
  by_cases hk : k = j
  · subst hk; by_cases hl : k < l.length <;> simp [hl]
  · simp [hk]
theorem turn_ok {m : Tab} {c : Int} (h : m.Ok c) (i s : Int) : (turnM m i s).Ok c := by
  unfold turnM
  split
  · rename_i hi
    refine ⟨h.n1, h.n8, by simp [h.st], by split <;> simp [h.wt], h.pk, fun k hk => ?_, h.pk0, h.w0⟩
    have := h.wt0 k hk
    simp only
    split
    · exact this
    · rw [getD_set]; split
      · have := h.w0; omega
      · exact this
  · exact h
theorem turn_n (m : Tab) (i s : Int) : (turnM m i s).n = m.n := by unfold turnM; split <;> rfl
/-- Who is runnable. -/
def runM (m : Tab) : List Nat := (List.range m.n).filter (fun k => decide (m.st.getD k 0 = 0))
/-- All have ended. -/
def endM (m : Tab) : Bool := (List.range m.n).all (fun k => decide (m.st.getD k 0 = 2))
def nints (l : List Nat) : List Int := l.map (fun k : Nat => (k : Int))
/-- Who is runnable among the first k. -/
def runTo (m : Tab) (k : Nat) : List Int := nints ((List.range k).filter (fun j => decide (m.st.getD j 0 = 0)))
theorem runTo_n (m : Tab) : runTo m m.n = nints (runM m) := rfl
theorem runTo_yes {m : Tab} {k : Nat} (h : m.st.getD k 0 = 0) : runTo m k ++ [(k : Int)] = runTo m (k + 1) := by
  simp only [runTo, List.range_succ, List.filter_append, nints, List.map_append, List.filter_cons, List.filter_nil, h, decide_true, if_true, List.map_cons, List.map_nil]
theorem runTo_no {m : Tab} {k : Nat} (h : ¬ m.st.getD k 0 = 0) : runTo m k = runTo m (k + 1) := by
  simp only [runTo, List.range_succ, List.filter_append, nints, List.map_append, List.filter_cons, List.filter_nil, h, decide_false, Bool.false_eq_true, if_false, List.map_nil, List.append_nil]
theorem runTo_len (m : Tab) (k : Nat) : (runTo m k).length ≤ k := by
  simp only [runTo, nints, List.length_map]
  exact Nat.le_trans (List.length_filter_le _ _) (by simp)
theorem runM_lt {m : Tab} {k : Nat} (h : k ∈ runM m) : k < m.n := by simp [runM] at h; exact h.1
theorem runM_len (m : Tab) : (runM m).length ≤ m.n := Nat.le_trans (List.length_filter_le _ _) (by simp)
theorem nints_get {l : List Nat} {k x : Nat} (h : l[k]? = some x) : (nints l)[k]? = some (x : Int) := by simp [nints, h]
theorem nints_len (l : List Nat) : (nints l).length = l.length := by simp [nints]
/-- One who is not told waits one more. -/
def stepM (told : Nat) (m : Tab) (x : Nat) : Tab := if x = told then m else { m with wt := m.wt.set x (m.wt.getD x 0 + 1), worst := if m.wt.getD x 0 + 1 > m.worst then m.wt.getD x 0 + 1 else m.worst }
theorem step_ok {m : Tab} {c : Int} (h : m.Ok c) {x : Nat} (hx : x < m.n) (told : Nat) : (stepM told m x).Ok (c + 1) := by
  unfold stepM
  split
  · exact h.mono (by omega)
  · have hw := h.wt0 x hx
    have h0 := h.w0
    refine ⟨h.n1, h.n8, h.st, by simp [h.wt], h.pk, fun k hk => ?_, fun k hk => ?_, ?_⟩
    · have := h.wt0 k hk
      simp only [getD_set]
      split <;> omega
    · have := h.pk0 k hk; simp only; omega
    · simp only; split <;> omega
theorem step_n (told : Nat) (m : Tab) (x : Nat) : (stepM told m x).n = m.n := by unfold stepM; split <;> rfl
theorem step_st (told : Nat) (m : Tab) (x : Nat) : (stepM told m x).st = m.st := by unfold stepM; split <;> rfl
theorem step_pk (told : Nat) (m : Tab) (x : Nat) : (stepM told m x).pk = m.pk := by unfold stepM; split <;> rfl
def stepsM (told : Nat) (m : Tab) (l : List Nat) : Tab := l.foldl (stepM told) m
theorem steps_n (told : Nat) : ∀ (l : List Nat) (m : Tab), (stepsM told m l).n = m.n
  | [], m => rfl
  | x :: l, m => (steps_n told l (stepM told m x)).trans (step_n told m x)
theorem steps_st (told : Nat) : ∀ (l : List Nat) (m : Tab), (stepsM told m l).st = m.st
  | [], m => rfl
  | x :: l, m => (steps_st told l (stepM told m x)).trans (step_st told m x)
theorem steps_pk (told : Nat) : ∀ (l : List Nat) (m : Tab), (stepsM told m l).pk = m.pk
  | [], m => rfl
  | x :: l, m => (steps_pk told l (stepM told m x)).trans (step_pk told m x)
theorem steps_ok (told : Nat) : ∀ (l : List Nat) {m : Tab} {c : Int}, m.Ok c → (∀ x ∈ l, x < m.n) → (stepsM told m l).Ok (c + l.length)
  | [], m, c, h, hl => by simpa [stepsM] using h
  | x :: l, m, c, h, hl => by
    have h1 := step_ok h (hl x (List.mem_cons_self ..)) told
    have := steps_ok told l h1 (fun y hy => by rw [step_n]; exact hl y (List.mem_cons_of_mem _ hy))
    exact this.mono (by simp; omega)
theorem steps_snoc (told : Nat) (m : Tab) (l : List Nat) (x : Nat) : stepsM told m (l ++ [x]) = stepM told (stepsM told m l) x := by simp [stepsM]
theorem take_snoc' {l : List Nat} {i x : Nat} (h : l[i]? = some x) : l.take (i + 1) = l.take i ++ [x] := by
  have := (List.getElem?_eq_some_iff.1 h)
  rw [List.take_succ_eq_append_getElem this.1, this.2]
/-- The told one's wait is over, and it has been told once more. -/
def toldM (m : Tab) (told : Nat) : Tab := { m with wt := m.wt.set told 0, pk := m.pk.set told (m.pk.getD told 0 + 1) }
theorem told_ok {m : Tab} {c : Int} (h : m.Ok c) {told : Nat} (ht : told < m.n) : (toldM m told).Ok (c + 1) := by
  have h0 := h.w0
  have hp := h.pk0 told ht
  refine ⟨h.n1, h.n8, h.st, by simp [toldM, h.wt], by simp [toldM, h.pk], fun k hk => ?_, fun k hk => ?_, by simp only [toldM]; omega⟩
  · have := h.wt0 k hk
    simp only [toldM, getD_set]; split <;> omega
  · have := h.pk0 k hk
    simp only [toldM, getD_set]; split <;> omega
/-- Which of those who are runnable. -/
def whoM (m : Tab) (p : Int) : Nat := (runM m).getD (p % ((runM m).length : Int)).toNat 0
def pickM (m : Tab) (p : Int) : Tab := if runM m = [] then m else toldM (stepsM (whoM m p) m (runM m)) (whoM m p)
theorem who_lt {m : Tab} (p : Int) (h : runM m ≠ []) : (p % ((runM m).length : Int)).toNat < (runM m).length := by
  have hl : 0 < (runM m).length := List.length_pos_iff.2 h
  have h1 := Int.emod_nonneg p (show ((runM m).length : Int) ≠ 0 by omega)
  have h2 := Int.emod_lt_of_pos p (show 0 < ((runM m).length : Int) by omega)
  omega
theorem who_get {m : Tab} (p : Int) (h : runM m ≠ []) : (runM m)[(p % ((runM m).length : Int)).toNat]? = some (whoM m p) := by
  have := who_lt p h
  simp [whoM, List.getD_eq_getElem?_getD, this]
theorem who_mem {m : Tab} (p : Int) (h : runM m ≠ []) : whoM m p ∈ runM m := List.mem_of_getElem? (who_get p h)
theorem pick_ok {m : Tab} {c : Int} (h : m.Ok c) (p : Int) : (pickM m p).Ok (c + 9) := by
  unfold pickM
  split
  · exact h.mono (by omega)
  · rename_i hr
    have h1 := steps_ok (whoM m p) (runM m) h (fun x hx => runM_lt hx)
    have h2 := told_ok h1 (told := whoM m p) (by rw [steps_n]; exact runM_lt (who_mem p hr))
    have h3 := runM_len m
    have h8 := h.n8
    exact h2.mono (by omega)
theorem pick_n (m : Tab) (p : Int) : (pickM m p).n = m.n := by
  unfold pickM; split
  · rfl
  · exact steps_n _ _ _
theorem tmod_rest {p : Int} {n : Int} (hn : 0 < n) : (p.tmod n + n) % n = p % n := by
  rw [Int.add_emod_right]
  by_cases h : 0 ≤ p
  · rw [Int.tmod_eq_emod_of_nonneg h, Int.emod_emod_of_dvd _ (Int.dvd_refl _)]
  · have h3 := Int.mul_tdiv_add_tmod p n
    rw [show p.tmod n = p + n * (-(p.tdiv n)) from by rw [Int.mul_neg]; omega, Int.add_mul_emod_self_left]

theorem runM_nodup (m : Tab) : (runM m).Nodup := List.nodup_range.filter _
/-- The reference's table behind i rounds. -/
def refR (m : Tab) (t k : Nat) (i : Nat) : Tab := if k < i then toldM (stepsM t m ((runM m).take i)) t else stepsM t m ((runM m).take i)
theorem step_told {M : Tab} {t x : Nat} (h : x ≠ t) : stepM t (toldM M t) x = toldM (stepM t M x) t := by
  unfold stepM
  rw [if_neg h, if_neg h]
  have e1 : (toldM M t).wt.getD x 0 = M.wt.getD x 0 := by
    show (M.wt.set t 0).getD x 0 = _
    rw [getD_set, if_neg (fun e => h e.1.symm)]
  rw [e1]
  simp only [toldM]
  rw [List.set_comm _ _ (Ne.symm h)]
  rfl
section
variable {m : Tab} {t k i x : Nat} (ht : (runM m)[k]? = some t) (hx : (runM m)[i]? = some x)
include ht hx
theorem ref_ne (h : i ≠ k) : x ≠ t := fun e => by
  subst e
  exact h ((List.getElem?_inj (List.getElem?_eq_some_iff.1 hx).1 (runM_nodup m)).1 (hx.trans ht.symm))
theorem ref_eq (h : i = k) : x = t := by subst h; rw [ht] at hx; exact (Option.some.inj hx).symm
theorem ref_succ (h : i ≠ k) : refR m t k (i + 1) = stepM t (refR m t k i) x := by
  have hne := ref_ne ht hx h
  unfold refR
  rw [take_snoc' hx, steps_snoc]
  by_cases h1 : k < i
  · rw [if_pos h1, if_pos (by omega), step_told hne]
  · rw [if_neg h1, if_neg (by omega)]
theorem ref_at (h : i = k) : refR m t k (i + 1) = toldM (refR m t k i) t := by
  have he := ref_eq ht hx h
  unfold refR
  rw [take_snoc' hx, steps_snoc, if_neg (show ¬ k < i by omega), if_pos (show k < i + 1 by omega), he]
  unfold stepM
  rw [if_pos rfl]
end
theorem ref_ok {m : Tab} {c : Int} (h : m.Ok c) {t k : Nat} (htn : t < m.n) (i : Nat) : (refR m t k i).Ok (c + 9) ∧ (refR m t k i).n = m.n := by
  have h1 := steps_ok t ((runM m).take i) h (fun x hx => runM_lt (List.mem_of_mem_take hx))
  have hn := steps_n t ((runM m).take i) m
  have hl := runM_len m
  have h8 := h.n8
  have h2 : ((runM m).take i).length ≤ 8 := by rw [List.length_take]; omega
  unfold refR
  split
  · exact ⟨(told_ok h1 (by omega)).mono (by omega), hn⟩
  · exact ⟨h1.mono (by omega), hn⟩
theorem ref_end {m : Tab} {p : Int} (h : runM m ≠ []) : refR m (whoM m p) (p % ((runM m).length : Int)).toNat (runM m).length = pickM m p := by
  unfold refR pickM
  rw [if_pos (who_lt p h), if_neg h, List.take_of_length_le (Nat.le_refl _)]
theorem ref_zero (m : Tab) (t k : Nat) : refR m t k 0 = m := by unfold refR; rw [if_neg (by omega)]; rfl
/-- A new table. -/
def newM (n : Nat) : Tab := ⟨n, List.replicate n 0, List.replicate n 0, List.replicate n 0, 0⟩
theorem new_ok {n : Nat} (h1 : 1 ≤ n) (h8 : n ≤ 8) : (newM n).Ok 0 := by
  have hg : ∀ k, (List.replicate n (0 : Int)).getD k 0 = 0 := fun k => by
    simp only [List.getD_eq_getElem?_getD, List.getElem?_replicate]; split <;> rfl
  exact ⟨h1, h8, by simp [newM], by simp [newM], by simp [newM], fun k _ => by simp only [newM]; rw [hg]; omega, fun k _ => by simp only [newM]; rw [hg]; omega, by simp [newM]⟩
theorem pad8_rep {n : Nat} (h : n ≤ 8) : pad8 (List.replicate n 0) = List.replicate 8 0 := by
  unfold pad8
  rw [List.length_replicate, List.replicate_append_replicate, show n + (8 - n) = 8 from by omega]
theorem tab_new {n : Nat} (h : n ≤ 8) : tabC (newM n) = .int .i64 (n : Int) :: List.replicate 25 (.int .i64 0) := by
  unfold tabC newM
  simp only [pad8_rep h]
  rfl

end Go.Proofs.Ytjanmpghcigigaa
