/- histories: how calls lie in time; fronts; histories that are turned -/
import Derived.Test.YthfdmeikpbkpaaaH
set_option linter.unusedVariables false
set_option linter.unusedSimpArgs false
namespace Go.Proofs.Ythfdmeikpbkpaaa
open Go.Sep Go.RowKit

/-! ## How calls lie in time -/
structure Tm (ops : List (List Op)) (evs : List Ev) (i : Nat) (st : List (Nat × Bool)) : Prop where
  at' : ∀ (pos : Nat) (y : Ca), (callsOf ops evs i)[pos]? = some y → 0 ≤ y.from' ∧ y.from' < (i : Int) ∧ ∃ (c m : Nat) (p : Nat × Bool), y.client = (c : Int) ∧ y.index = (m : Int) ∧ st[c]? = some p ∧ ((m < p.1 ∧ y.from' < y.to' ∧ y.to' < (i : Int)) ∨ (m = p.1 ∧ p.2 = true ∧ y.to' = -1 ∧ y.a = an0))
  up : ∀ (a b : Nat) (ya yb : Ca), (callsOf ops evs i)[a]? = some ya → (callsOf ops evs i)[b]? = some yb → a < b → ya.from' < yb.from'
  cl : ∀ (a b : Nat) (ya yb : Ca), (callsOf ops evs i)[a]? = some ya → (callsOf ops evs i)[b]? = some yb → a < b → ya.client = yb.client → 0 ≤ ya.to' ∧ ya.to' < yb.from'
theorem new_from (ops : List (List Op)) {i : Nat} (x : Ev) (h : i ≤ 65536) : (newC ops i x).from' = (i : Int) := by unfold newC; rw [dif_pos h]; rfl
theorem new_to (ops : List (List Op)) {i : Nat} (x : Ev) : (newC ops i x).to' = -1 := by unfold newC; split <;> rfl
theorem new_a (ops : List (List Op)) {i : Nat} (x : Ev) : (newC ops i x).a = an0 := by unfold newC; split <;> rfl
theorem ans_from (i : Nat) (x : Ev) (y : Ca) : (ansC i x y).from' = y.from' := by unfold ansC; split; split; rfl; rfl; rfl
theorem ans_to {i : Nat} {x : Ev} {y : Ca} (h : i ≤ 65536) (hc : y.client = x.client) (hk : y.index = x.index) : (ansC i x y).to' = (i : Int) := by unfold ansC; rw [if_pos ⟨hc, hk⟩, dif_pos h]; rfl
theorem ans_far {i : Nat} {x : Ev} {y : Ca} (h : ¬ (y.client = x.client ∧ y.index = x.index)) : ansC i x y = y := by unfold ansC; rw [if_neg h]
theorem Tm_step {ops : List (List Op)} {evs : List Ev} {i : Nat} {st st' : List (Nat × Bool)} {x : Ev} (hj : Tm ops evs i st) (hi : i ≤ 65536) (hx : evs[i]? = some x) (hl : st.length = ops.length) (h : stp ops st x = some st') : Tm ops evs (i + 1) st' := by
  obtain ⟨c, k, hc, hk, hp, rfl⟩ := stp_some hl h
  have hcs := calls_succ (ops := ops) hx
  cases hd : x.done with
  | false =>
    rw [hd] at hp
    have hn : nxt (k, false) x = (k, true) := by unfold nxt; rw [if_neg (by rw [hd]; decide)]
    rw [hn]
    unfold callS at hcs
    rw [if_neg (by rw [hd]; decide)] at hcs
    have hget : ∀ d : Nat, (st.set c (k, true))[d]? = if d = c then some (k, true) else st[d]? := fun d => set_get hp
    have hap : ∀ (pos : Nat) (y : Ca), (callsOf ops evs (i + 1))[pos]? = some y → (callsOf ops evs i)[pos]? = some y ∨ (pos = (callsOf ops evs i).length ∧ y = newC ops i x) := fun pos y hy => by
      rw [hcs] at hy
      by_cases hlt : pos < (callsOf ops evs i).length
      · rw [List.getElem?_append_left hlt] at hy; exact .inl hy
      · rw [List.getElem?_append_right (by omega)] at hy
        have h0 : pos - (callsOf ops evs i).length = 0 := by
          have := (List.getElem?_eq_some_iff.1 hy).1; simp at this; omega
        rw [h0] at hy
        exact .inr ⟨by omega, (Option.some.inj hy).symm⟩
    -- the client's calls so far are answered
    have hold : ∀ (pos : Nat) (y : Ca), (callsOf ops evs i)[pos]? = some y → y.client = (c : Int) → 0 ≤ y.to' ∧ y.to' < (i : Int) := fun pos y hy e => by
      obtain ⟨f0, f1, c0, m, p, h1, h2, h3, h4⟩ := hj.at' pos y hy
      have : c0 = c := by omega
      subst this
      rw [hp] at h3; cases h3
      rcases h4 with h4 | h4
      · omega
      · cases h4.2.1
    refine ⟨fun pos y hy => ?_, fun a b ya yb ha hb e => ?_, fun a b ya yb ha hb e1 e2 => ?_⟩
    · rcases hap pos y hy with hy | ⟨_, rfl⟩
      · obtain ⟨f0, f1, c0, m, p, h1, h2, h3, h4⟩ := hj.at' pos y hy
        refine ⟨f0, by omega, ?_⟩
        by_cases e : c0 = c
        · subst e
          rw [hp] at h3; cases h3
          refine ⟨c0, m, (k, true), h1, h2, by rw [hget, if_pos rfl], ?_⟩
          rcases h4 with h4 | h4
          · exact .inl ⟨h4.1, h4.2.1, by omega⟩
          · cases h4.2.1
        · refine ⟨c0, m, p, h1, h2, by rw [hget, if_neg e]; exact h3, ?_⟩
          rcases h4 with h4 | h4
          · exact .inl ⟨h4.1, h4.2.1, by omega⟩
          · exact .inr h4
      · rw [new_from ops x hi]
        exact ⟨by omega, by omega, c, k, (k, true), by rw [new_client]; exact hc, by rw [new_index]; exact hk, by rw [hget, if_pos rfl], .inr ⟨rfl, rfl, new_to ops x, new_a ops x⟩⟩
    · rcases hap a ya ha with ha | ⟨ea, rfl⟩ <;> rcases hap b yb hb with hb | ⟨eb, rfl⟩
      · exact hj.up a b ya yb ha hb e
      · rw [new_from ops x hi]; exact (hj.at' a ya ha).2.1
      · have := (List.getElem?_eq_some_iff.1 hb).1; omega
      · omega
    · rcases hap a ya ha with ha | ⟨ea, rfl⟩ <;> rcases hap b yb hb with hb | ⟨eb, rfl⟩
      · exact hj.cl a b ya yb ha hb e1 e2
      · rw [new_client] at e2; rw [new_from ops x hi]; exact hold a ya ha (e2.trans hc)
      · have := (List.getElem?_eq_some_iff.1 hb).1; omega
      · omega
  | true =>
    rw [hd] at hp
    have hn : nxt (k, true) x = (k + 1, false) := by unfold nxt; rw [if_pos hd]
    rw [hn]
    unfold callS at hcs
    rw [if_pos hd] at hcs
    have hget : ∀ d : Nat, (st.set c (k + 1, false))[d]? = if d = c then some (k + 1, false) else st[d]? := fun d => set_get hp
    have hap : ∀ (pos : Nat) (y : Ca), (callsOf ops evs (i + 1))[pos]? = some y → ∃ z, (callsOf ops evs i)[pos]? = some z ∧ y = ansC i x z := fun pos y hy => by
      rw [hcs, List.getElem?_map, Option.map_eq_some_iff] at hy
      obtain ⟨z, h1, h2⟩ := hy
      exact ⟨z, h1, h2.symm⟩
    refine ⟨fun pos y hy => ?_, fun a b ya yb ha hb e => ?_, fun a b ya yb ha hb e1 e2 => ?_⟩
    · obtain ⟨z, hz, rfl⟩ := hap pos y hy
      obtain ⟨f0, f1, c0, m, p, h1, h2, h3, h4⟩ := hj.at' pos z hz
      rw [ans_client, ans_index, ans_from]
      refine ⟨f0, by omega, ?_⟩
      by_cases e : c0 = c
      · subst e
        rw [hp] at h3; cases h3
        refine ⟨c0, m, (k + 1, false), h1, h2, by rw [hget, if_pos rfl], .inl ?_⟩
        rcases h4 with h4 | h4
        · simp only at h4
          rw [ans_far (fun e => by omega)]
          exact ⟨by simp only; omega, h4.2.1, by omega⟩
        · simp only at h4
          rw [ans_to hi (by omega) (by omega)]
          exact ⟨by simp only; omega, f1, by omega⟩
      · refine ⟨c0, m, p, h1, h2, by rw [hget, if_neg e]; exact h3, ?_⟩
        rw [ans_far (fun e' => e (by omega))]
        rcases h4 with h4 | h4
        · exact .inl ⟨h4.1, h4.2.1, by omega⟩
        · exact .inr h4
    · obtain ⟨za, hza, rfl⟩ := hap a ya ha
      obtain ⟨zb, hzb, rfl⟩ := hap b yb hb
      rw [ans_from, ans_from]
      exact hj.up a b za zb hza hzb e
    · obtain ⟨za, hza, rfl⟩ := hap a ya ha
      obtain ⟨zb, hzb, rfl⟩ := hap b yb hb
      rw [ans_client, ans_client] at e2
      rw [ans_from]
      obtain ⟨g1, g2⟩ := hj.cl a b za zb hza hzb e1 e2
      obtain ⟨f0, f1, c0, m, p, h1, h2, h3, h4⟩ := hj.at' a za hza
      rw [ans_far (fun e' => ?_)]
      · exact ⟨g1, g2⟩
      · have : c0 = c := by omega
        subst this
        rw [hp] at h3; cases h3
        simp only at h4
        rcases h4 with h4 | h4 <;> omega
theorem calls_tm {ops : List (List Op)} {evs : List Ev} : ∀ (i : Nat) (st : List (Nat × Bool)), i ≤ evs.length → i ≤ 65536 → chk ops (evs.take i) = some st → st.length = ops.length ∧ Tm ops evs i st
  | 0, st, _, _, h => by
    have h' := Option.some.inj ((chk_zero ops evs).symm.trans h)
    subst h'
    exact ⟨List.length_replicate .., fun pos y hy => (by cases hy), fun a b ya yb ha _ _ => (by cases ha), fun a b ya yb ha _ _ _ => (by cases ha)⟩
  | i + 1, st, hi, h6, h => by
    obtain ⟨x, hx⟩ : ∃ x, evs[i]? = some x := ⟨_, List.getElem?_eq_getElem (by omega)⟩
    cases h0 : chk ops (evs.take i) with
    | none =>
      have : chk ops (evs.take (i + 1)) = none := by
        unfold chk at h0 ⊢; rw [List.take_add_one, hx, List.foldl_append, h0]; rfl
      rw [this] at h; cases h
    | some s0 =>
      obtain ⟨g1, g2⟩ := calls_tm i s0 (by omega) (by omega) h0
      rw [chk_snoc hx h0] at h
      exact ⟨by rw [stp_len h]; exact g1, Tm_step g2 (by omega) hx g1 h⟩
/-- A row of calls that lies in time as a history's calls do, of so many clients. -/
structure Lies (n : Nat) (R : List Ca) : Prop where
  at' : ∀ (pos : Nat) (y : Ca), R[pos]? = some y → 0 ≤ y.from' ∧ (y.to' = -1 ∨ y.from' < y.to') ∧ ∃ c : Nat, y.client = (c : Int) ∧ c < n
  up : ∀ (a b : Nat) (ya yb : Ca), R[a]? = some ya → R[b]? = some yb → a < b → ya.from' < yb.from'
  cl : ∀ (a b : Nat) (ya yb : Ca), R[a]? = some ya → R[b]? = some yb → a < b → ya.client = yb.client → 0 ≤ ya.to' ∧ ya.to' < yb.from'
theorem lies_calls {ops : List (List Op)} {evs : List Ev} (h6 : evs.length ≤ 65536) : Lies ops.length (if (chk ops evs).isSome = true then callsOf ops evs evs.length else []) := by
  split
  · rename_i h
    obtain ⟨st, hst⟩ := Option.isSome_iff_exists.1 h
    obtain ⟨hl, ht⟩ := calls_tm evs.length st (Nat.le_refl _) h6 (by rw [List.take_length]; exact hst)
    refine ⟨fun pos y hy => ?_, ht.up, ht.cl⟩
    obtain ⟨f0, f1, c, m, p, h1, h2, h3, h4⟩ := ht.at' pos y hy
    refine ⟨f0, ?_, c, h1, by have := (List.getElem?_eq_some_iff.1 h3).1; omega⟩
    rcases h4 with h4 | h4
    · exact .inr h4.2.1
    · exact .inl h4.2.2.1
  · exact ⟨fun pos y hy => (by cases hy), fun a b ya yb ha _ _ => (by cases ha), fun a b ya yb ha _ _ _ => (by cases ha)⟩
theorem small_of {f : Ca → Nat} : ∀ (n : Nat) (l : List Ca), l.Pairwise (fun a b => f a ≠ f b) → (∀ a ∈ l, f a < n) → l.length ≤ n
  | 0, [], _, _ => Nat.le_refl _
  | 0, a :: l, _, h => absurd (h a (List.mem_cons_self ..)) (Nat.not_lt_zero _)
  | n + 1, l, hp, h => by
    have h1 := small_of (f := f) n (l.filter (fun a => decide (f a ≠ n))) (hp.filter _) (fun a ha => by
      obtain ⟨g1, g2⟩ := List.mem_filter.1 ha
      have := h a g1
      have := of_decide_eq_true g2
      omega)
    have h2 : (l.filter (fun a => !decide (f a ≠ n))).length ≤ 1 := by
      have hq := hp.filter (fun a => !decide (f a ≠ n))
      match hm : l.filter (fun a => !decide (f a ≠ n)) with
      | [] => simp
      | [_] => simp
      | a :: b :: r =>
        rw [hm] at hq
        have ha : f a = n := by
          have : a ∈ l.filter (fun a => !decide (f a ≠ n)) := by rw [hm]; simp
          have := (List.mem_filter.1 this).2
          simpa using this
        have hb : f b = n := by
          have : b ∈ l.filter (fun a => !decide (f a ≠ n)) := by rw [hm]; simp
          have := (List.mem_filter.1 this).2
          simpa using this
        have := (List.pairwise_cons.1 hq).1 b (List.mem_cons_self ..)
        omega
    have h3 : l.length = (l.filter (fun a => decide (f a ≠ n))).length + (l.filter (fun a => !decide (f a ≠ n))).length := by
      have := List.length_eq_countP_add_countP (fun a => decide (f a ≠ n)) (l := l)
      rw [List.countP_eq_length_filter, List.countP_eq_length_filter] at this
      simpa using this
    omega
theorem Lies.one {n : Nat} {R : List Ca} (h : Lies n R) (p : Int) : R.countP (und p) ≤ n := by
  rw [List.countP_eq_length_filter]
  have hpw : R.Pairwise (fun a b => a.client = b.client → 0 ≤ a.to' ∧ a.to' < b.from') := List.pairwise_iff_getElem.2 (fun i j hi hj hij e => h.cl i j _ _ (List.getElem?_eq_getElem hi) (List.getElem?_eq_getElem hj) hij e)
  refine small_of (f := fun a => a.client.toNat) n _ ?_ (fun a ha => ?_)
  · have hf := hpw.filter (und p)
    refine List.Pairwise.imp_of_mem (fun {a b} ha hb hab e => ?_) hf
    have ga := (List.mem_filter.1 ha).2
    have gb := (List.mem_filter.1 hb).2
    obtain ⟨i, hi⟩ := List.mem_iff_getElem?.1 (List.mem_filter.1 ha).1
    obtain ⟨j, hj⟩ := List.mem_iff_getElem?.1 (List.mem_filter.1 hb).1
    obtain ⟨_, _, ca, hca, _⟩ := h.at' i a hi
    obtain ⟨_, _, cb, hcb, _⟩ := h.at' j b hj
    have := hab (by omega)
    simp only [und, Bool.and_eq_true, Bool.or_eq_true, decide_eq_true_eq] at ga gb
    omega
  · obtain ⟨i, hi⟩ := List.mem_iff_getElem?.1 (List.mem_filter.1 ha).1
    obtain ⟨_, _, ca, hca, hlt⟩ := h.at' i a hi
    omega
theorem wid_fold (R : List Ca) : ∀ (l : List Ca) (m n : Nat), m ≤ n → (∀ p, R.countP (und p) ≤ n) → l.foldl (fun m a => max m (R.countP (und a.from'))) m ≤ n
  | [], m, n, h, _ => h
  | a :: l, m, n, h, hp => wid_fold R l (max m (R.countP (und a.from'))) n (Nat.max_le.2 ⟨h, hp a.from'⟩) hp
theorem wid_ge (R : List Ca) : ∀ (l : List Ca) (m : Nat), m ≤ l.foldl (fun m a => max m (R.countP (und a.from'))) m ∧ ∀ a ∈ l, R.countP (und a.from') ≤ l.foldl (fun m a => max m (R.countP (und a.from'))) m
  | [], m => ⟨Nat.le_refl _, fun _ h => by cases h⟩
  | a :: l, m => by
    obtain ⟨h1, h2⟩ := wid_ge R l (max m (R.countP (und a.from')))
    refine ⟨by simp only [List.foldl_cons]; omega, fun b hb => ?_⟩
    simp only [List.foldl_cons]
    rcases List.mem_cons.1 hb with rfl | hb
    · omega
    · exact h2 b hb
theorem Lies.wid_le {n : Nat} {R : List Ca} (h : Lies n R) : wid R ≤ n := wid_fold R R 0 n (Nat.zero_le _) h.one
theorem Lies.pen_le {n : Nat} {R : List Ca} (h : Lies n R) : pen R ≤ wid R := by
  rcases Nat.eq_zero_or_pos R.length with h0 | h0
  · have : R = [] := List.eq_nil_of_length_eq_zero h0
    subst this; exact Nat.le_refl _
  · obtain ⟨z, hz⟩ : ∃ z, R[R.length - 1]? = some z := ⟨_, List.getElem?_eq_getElem (by omega)⟩
    refine Nat.le_trans ?_ ((wid_ge R R 0).2 z (List.mem_of_getElem? hz))
    unfold pen
    refine List.countP_mono_left (fun a ha hp => ?_)
    obtain ⟨i, hi⟩ := List.mem_iff_getElem?.1 ha
    have hlt := (List.getElem?_eq_some_iff.1 hi).1
    have hle : a.from' ≤ z.from' := by
      rcases Nat.lt_or_ge i (R.length - 1) with g | g
      · exact Int.le_of_lt (h.up i _ a z hi hz g)
      · have : i = R.length - 1 := by omega
        rw [this] at hi; rw [hi] at hz; cases hz; exact Int.le_refl _
    have := of_decide_eq_true hp
    simp only [und, Bool.and_eq_true, Bool.or_eq_true, decide_eq_true_eq]
    omega
theorem bef_iff {a b : Ca} : bef a b = true ↔ 0 ≤ a.to' ∧ a.to' < b.from' := by simp [bef]
theorem Lies.fwd {n : Nat} {R : List Ca} (h : Lies n R) {i j : Nat} {x y : Ca} (hx : R[i]? = some x) (hy : R[j]? = some y) (hb : bef x y = true) : i < j ∧ bef y x = false := by
  obtain ⟨h1, h2⟩ := bef_iff.1 hb
  obtain ⟨f0, f1, _⟩ := h.at' i x hx
  obtain ⟨g0, g1, _⟩ := h.at' j y hy
  have hlt : x.from' < y.from' := by omega
  constructor
  · rcases Nat.lt_trichotomy i j with g | g | g
    · exact g
    · subst g; rw [hx] at hy; cases hy; omega
    · have := h.up j i y x hy hx g; omega
  · cases hq : bef y x with
    | false => rfl
    | true => have := bef_iff.1 hq; omega
theorem Lies.own {n : Nat} {R : List Ca} (h : Lies n R) {i j : Nat} {x y : Ca} (hx : R[i]? = some x) (hy : R[j]? = some y) (hc : x.client = y.client) (hij : i < j) : bef x y = true := bef_iff.2 (h.cl i j x y hx hy hij hc)
theorem Lies.trans {n : Nat} {R : List Ca} (h : Lies n R) {i j k : Nat} {x y z : Ca} (hx : R[i]? = some x) (hy : R[j]? = some y) (hz : R[k]? = some z) (h1 : bef x y = true) (h2 : bef y z = true) : bef x z = true := by
  have a := bef_iff.1 h1
  have b := bef_iff.1 h2
  obtain ⟨_, g, _⟩ := h.at' j y hy
  exact bef_iff.2 (by omega)

/-! ## Fronts of histories, and histories that are turned -/
def cutC (k : Nat) (a : Ca) : Ca := if (k : Int) ≤ a.to' then { a with to' := -1, a := an0, wt := by decide } else a
theorem ans_op (i : Nat) (x : Ev) (y : Ca) : (ansC i x y).op = y.op := by unfold ansC; split; split; rfl; rfl; rfl
theorem cut_client (k : Nat) (a : Ca) : (cutC k a).client = a.client := by unfold cutC; split <;> rfl
theorem calls_take (ops : List (List Op)) (evs : List Ev) : ∀ {i k : Nat}, i ≤ k → callsOf ops (evs.take k) i = callsOf ops evs i
  | 0, _, _ => rfl
  | i + 1, k, h => by
    have ih := calls_take ops evs (i := i) (k := k) (by omega)
    simp only [callsOf, ih, List.getElem?_take, if_pos (show i < k by omega)]
theorem chk_pre {ops : List (List Op)} {l : List Ev} (h : (chk ops l).isSome = true) (i : Nat) : ∃ st, chk ops (l.take i) = some st := by
  cases h1 : chk ops (l.take i) with
  | none => rw [chk_none h1] at h; cases h
  | some st => exact ⟨st, rfl⟩
theorem fronts {ops : List (List Op)} {l : List Ev} {k : Nat} (h6 : l.length ≤ 65536) (h : (chk ops l).isSome = true) (hk : k ≤ l.length) : ∀ j, k + j ≤ l.length →
    (callsOf ops l k).length ≤ (callsOf ops l (k + j)).length ∧ ∀ (pos : Nat) (y : Ca), (callsOf ops l (k + j))[pos]? = some y → (pos < (callsOf ops l k).length → (callsOf ops l k)[pos]? = some (cutC k y)) ∧ ((callsOf ops l k).length ≤ pos → (k : Int) ≤ y.from')
  | 0, hj => by
    refine ⟨Nat.le_refl _, fun pos y hy => ⟨fun _ => ?_, fun hp => ?_⟩⟩
    · obtain ⟨st, hst⟩ := chk_pre h k
      obtain ⟨_, ht⟩ := calls_tm k st hk (by omega) hst
      obtain ⟨f0, f1, c, m, p, h1, h2, h3, h4⟩ := ht.at' pos y hy
      rw [Nat.add_zero] at hy
      rw [hy]
      unfold cutC
      rw [if_neg (by omega)]
    · have := (List.getElem?_eq_some_iff.1 hy).1
      rw [Nat.add_zero] at this; omega
  | j + 1, hj => by
    obtain ⟨g1, g2⟩ := fronts h6 h hk j (by omega)
    obtain ⟨x, hx⟩ : ∃ x, l[k + j]? = some x := ⟨_, List.getElem?_eq_getElem (by omega)⟩
    have hcs := calls_succ (ops := ops) hx
    rw [show k + (j + 1) = k + j + 1 from rfl]
    cases hd : x.done with
    | false =>
      unfold callS at hcs
      rw [if_neg (by rw [hd]; decide)] at hcs
      rw [hcs]
      refine ⟨by rw [List.length_append]; omega, fun pos y hy => ?_⟩
      by_cases hlt : pos < (callsOf ops l (k + j)).length
      · rw [List.getElem?_append_left hlt] at hy; exact g2 pos y hy
      · rw [List.getElem?_append_right (by omega)] at hy
        have h0 : pos - (callsOf ops l (k + j)).length = 0 := by
          have := (List.getElem?_eq_some_iff.1 hy).1; simp at this; omega
        rw [h0] at hy
        have := Option.some.inj hy
        subst this
        exact ⟨fun e => by omega, fun _ => by rw [new_from ops x (by omega)]; omega⟩
    | true =>
      unfold callS at hcs
      rw [if_pos hd] at hcs
      rw [hcs]
      refine ⟨by rw [List.length_map]; omega, fun pos y hy => ?_⟩
      rw [List.getElem?_map, Option.map_eq_some_iff] at hy
      obtain ⟨z, hz, rfl⟩ := hy
      obtain ⟨q1, q2⟩ := g2 pos z hz
      refine ⟨fun e => ?_, fun e => by rw [ans_from]; exact q2 e⟩
      rw [q1 e]
      congr 1
      by_cases hm : z.client = x.client ∧ z.index = x.index
      · obtain ⟨st, hst⟩ := chk_pre h (k + j)
        obtain ⟨hl, ht⟩ := calls_tm (k + j) st (by omega) (by omega) hst
        obtain ⟨st2, hst2⟩ := chk_pre h (k + j + 1)
        rw [chk_snoc hx hst] at hst2
        obtain ⟨c, m, hc, hm', hp, _⟩ := stp_some hl hst2
        rw [hd] at hp
        obtain ⟨f0, f1, c0, m0, p, h1, h2, h3, h4⟩ := ht.at' pos z hz
        have : c0 = c := by omega
        subst this
        rw [hp] at h3; cases h3
        simp only at h4
        rcases h4 with h4 | h4
        · omega
        · have e1 : cutC k z = z := by unfold cutC; rw [if_neg (by omega)]
          have e2 : cutC k (ansC (k + j) x z) = z := by
            unfold cutC
            rw [if_pos (by rw [ans_to (by omega) hm.1 hm.2]; omega)]
            exact Ca.ext' (ans_client _ _ _) (ans_index _ _ _) (ans_op _ _ _) (ans_from _ _ _) h4.2.2.1.symm h4.2.2.2.symm
          rw [e1, e2]
      · rw [ans_far hm]
/-- What the law of fronts looks at. -/
theorem fronts_all {ops : List (List Op)} {l : List Ev} {k : Nat} (h6 : l.length ≤ 65536) (h : (chk ops l).isSome = true) (hk : k ≤ l.length) :
    (callsOf ops l k).length ≤ (callsOf ops l l.length).length ∧ ∀ (pos : Nat) (y : Ca), (callsOf ops l l.length)[pos]? = some y → (pos < (callsOf ops l k).length → (callsOf ops l k)[pos]? = some (cutC k y) ∧ y.from' < (k : Int)) ∧ ((callsOf ops l k).length ≤ pos → (k : Int) ≤ y.from') := by
  have := fronts h6 h hk (l.length - k) (by omega)
  rw [show k + (l.length - k) = l.length from by omega] at this
  refine ⟨this.1, fun pos y hy => ⟨fun e => ?_, (this.2 pos y hy).2⟩⟩
  have g := (this.2 pos y hy).1 e
  refine ⟨g, ?_⟩
  obtain ⟨st, hst⟩ := chk_pre h k
  obtain ⟨_, ht⟩ := calls_tm k st hk (by omega) hst
  obtain ⟨_, f1, _⟩ := ht.at' pos _ g
  have e2 : (cutC k y).from' = y.from' := by unfold cutC; split <;> rfl
  rw [e2] at f1; exact f1
theorem chk_take {ops : List (List Op)} {l : List Ev} (h : (chk ops l).isSome = true) (k : Nat) : (chk ops (l.take k)).isSome = true := by
  obtain ⟨st, hst⟩ := chk_pre h k
  rw [hst]; rfl
theorem calls_front {ops : List (List Op)} {l : List Ev} {k : Nat} (hk : k ≤ l.length) : callsOf ops (l.take k) (l.take k).length = callsOf ops l k := by
  rw [List.length_take, Nat.min_eq_left hk]; exact calls_take ops l (Nat.le_refl _)
/-- The checking goes on from a state. -/
abbrev chkF (ops : List (List Op)) (st : List (Nat × Bool)) (l : List Ev) : Option (List (Nat × Bool)) := l.foldl (fun s e => s.bind (fun st => stp ops st e)) (some st)
theorem chkF_cons (ops : List (List Op)) (st : List (Nat × Bool)) (e : Ev) (l : List Ev) : chkF ops st (e :: l) = match stp ops st e with | some s => chkF ops s l | none => none := by
  show l.foldl _ (stp ops st e) = _
  cases stp ops st e with
  | none => exact chk_dead ops l
  | some s => rfl
theorem chk_app {ops : List (List Op)} {a b : List Ev} {st : List (Nat × Bool)} (h : chk ops a = some st) : chk ops (a ++ b) = chkF ops st b := by
  unfold chk at h ⊢
  rw [List.foldl_append, h]
theorem apart {ops : List (List Op)} {c : Nat} {cl : Int} (hcl : cl = (c : Int)) : ∀ (l : List Ev) (s t : List (Nat × Bool)), s.length = ops.length → t.length = ops.length → (∀ d, d ≠ c → s[d]? = t[d]?) → (∀ p q : Nat × Bool, s[c]? = some p → t[c]? = some q → p.2 ≠ q.2) → c < ops.length → (chkF ops t l).isSome = true → (chkF ops s l).isSome = !(l.any (fun e => decide (e.client = cl)))
  | [], s, t, _, _, _, _, _, _ => rfl
  | e :: l, s, t, hs, ht, hf, hc, hlt, h => by
    rw [chkF_cons] at h ⊢
    cases h1 : stp ops t e with
    | none => rw [h1] at h; cases h
    | some t1 =>
      rw [h1] at h
      obtain ⟨d, k, hd, hk, hp, rfl⟩ := stp_some ht h1
      have hdl : d < ops.length := by have := (List.getElem?_eq_some_iff.1 hp).1; omega
      obtain ⟨lo, hlo⟩ : ∃ o, ops[d]? = some o := ⟨_, List.getElem?_eq_getElem hdl⟩
      have hok : okB lo (k, e.done) e = true := by
        have := stp_at hd hlo hp
        rw [this] at h1
        cases hq : okB lo (k, e.done) e with
        | true => rfl
        | false => rw [hq] at h1; cases h1
      by_cases hdc : d = c
      · subst hdc
        obtain ⟨p, hsp⟩ : ∃ p, s[d]? = some p := ⟨_, List.getElem?_eq_getElem (by omega)⟩
        have hne := hc p _ hsp hp
        have hbad : okB lo p e = false := by
          cases hq : okB lo p e with
          | false => rfl
          | true =>
            unfold okB at hq
            simp only [Bool.and_eq_true, beq_iff_eq] at hq
            exact absurd hq.1.2.symm hne
        rw [stp_bad hd hlo hsp hbad]
        simp [hd, hcl]
      · have hsd : s[d]? = some (k, e.done) := (hf d hdc).trans hp
        rw [stp_ok hd hlo hsd hok]
        have ih := apart hcl l (s.set d (nxt (k, e.done) e)) (t.set d (nxt (k, e.done) e)) (by rw [List.length_set]; exact hs) (by rw [List.length_set]; exact ht)
          (fun j hj => by rw [set_get hsd, set_get hp]; split; rfl; exact hf j hj) (fun p q h2 h3 => by rw [set_get hsd, if_neg (fun e => hdc e.symm)] at h2; rw [set_get hp, if_neg (fun e => hdc e.symm)] at h3; exact hc p q h2 h3) hlt h
        simp only
        rw [ih]
        have : decide (e.client = cl) = false := decide_eq_false (by omega)
        simp only [List.any_cons, this, Bool.false_or]
theorem lacks {ops : List (List Op)} {l : List Ev} {k : Nat} {x : Ev} (h : (chk ops l).isSome = true) (hx : l[k]? = some x) : (chk ops (l.take k ++ l.drop (k + 1))).isSome = !((l.drop (k + 1)).any (fun e => decide (e.client = x.client))) := by
  have hlt := (List.getElem?_eq_some_iff.1 hx).1
  obtain ⟨s, hs⟩ := chk_pre h k
  obtain ⟨t, ht⟩ := chk_pre h (k + 1)
  have hst := chk_snoc hx hs
  rw [ht] at hst
  have hsl : s.length = ops.length := (calls_inv k s (by omega) hs).1
  obtain ⟨c, m, hc, hm, hp, rfl⟩ := stp_some hsl hst.symm
  have hcl : c < ops.length := by have := (List.getElem?_eq_some_iff.1 hp).1; omega
  rw [chk_app hs]
  refine apart hc (l.drop (k + 1)) s (s.set c (nxt (m, x.done) x)) hsl (by rw [List.length_set]; exact hsl) (fun d hd => by rw [set_get (d := d) (x := nxt (m, x.done) x) hp, if_neg hd]) (fun p q h1 h2 => ?_) hcl ?_
  · rw [hp] at h1; cases h1
    rw [set_get hp, if_pos rfl] at h2
    have h3 := Option.some.inj h2
    subst h3
    unfold nxt
    cases hd : x.done <;> simp
  · rw [← chk_app ht, List.take_append_drop]; exact h
theorem twice {ops : List (List Op)} {l : List Ev} {k : Nat} {x : Ev} (h : (chk ops l).isSome = true) (hx : l[k]? = some x) : (chk ops (l.take (k + 1) ++ l.drop k)).isSome = false := by
  have hlt := (List.getElem?_eq_some_iff.1 hx).1
  obtain ⟨s, hs⟩ := chk_pre h k
  obtain ⟨t, ht⟩ := chk_pre h (k + 1)
  have hst := chk_snoc hx hs
  rw [ht] at hst
  have hsl : s.length = ops.length := (calls_inv k s (by omega) hs).1
  obtain ⟨c, m, hc, hm, hp, rfl⟩ := stp_some hsl hst.symm
  have hcl : c < ops.length := by have := (List.getElem?_eq_some_iff.1 hp).1; omega
  obtain ⟨lo, hlo⟩ : ∃ o, ops[c]? = some o := ⟨_, List.getElem?_eq_getElem hcl⟩
  have hd : l.drop k = x :: l.drop (k + 1) := by
    rw [← (List.getElem?_eq_some_iff.1 hx).2]; exact List.drop_eq_getElem_cons hlt
  rw [chk_app ht, hd, chkF_cons]
  have hp2 : (s.set c (nxt (m, x.done) x))[c]? = some (nxt (m, x.done) x) := by rw [set_get hp, if_pos rfl]
  have hbad : okB lo (nxt (m, x.done) x) x = false := by
    unfold okB nxt
    cases hq : x.done
    · simp
    · simp
  rw [stp_bad hc hlo hp2 hbad]; rfl

end Go.Proofs.Ythfdmeikpbkpaaa
