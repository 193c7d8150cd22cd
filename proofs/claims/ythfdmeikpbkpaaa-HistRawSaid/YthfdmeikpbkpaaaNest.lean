
/- Rows of rows, opened: a slice of slices of flat elements. -/
import Derived.Test.YthfdmeikpbkpaaaOpen
namespace Go.Proofs.Ythfdmeikpbkpaaa
open Go.RowKit
theorem exists_list {α : Type} {Q : Nat → α → Prop} : ∀ n : Nat, (∀ i, i < n → ∃ s, Q i s) → ∃ l : List α, l.length = n ∧ ∀ (i : Nat) (s : α), l[i]? = some s → Q i s
  | 0, _ => ⟨[], rfl, fun i s h => by simp at h⟩
  | n + 1, h => by
    obtain ⟨l, hl, hq⟩ := exists_list (Q := Q) n (fun i hi => h i (by omega))
    obtain ⟨s, hs⟩ := h n (by omega)
    refine ⟨l ++ [s], by simp [hl], fun i t ht => ?_⟩
    by_cases hi : i < l.length
    · rw [List.getElem?_append_left hi] at ht; exact hq i t ht
    · rw [List.getElem?_append_right (by omega)] at ht
      have h0 : i - l.length = 0 := by
        have := (List.getElem?_eq_some_iff.1 ht).1
        simp at this; omega
      rw [h0] at ht
      have : i = n := by omega
      subst this
      cases ht; exact hs
section
variable {H : Type} {enc : TypeId × Value → H} {P : Program} {w : World} {spare : Nat → Bool} {held : Bool}
open Go.ChangeShapes Go.WideShapes Go.Deep
/-- A slice of flat elements, opened, wherever it lies. -/
theorem open_flat_in {t e : TypeId} {n fuel : Nat} {ks : List Sc} {cs : List Value} {x : DataW H × List MemPlace} (ht : P.underlying t = some (.slice e)) (hk : flat P n e = some ks) (hce : P.cellsOf e = ks.length) (hpos : 0 < ks.length)
    (hlt : ∀ y ∈ x.2, y.block < w.heap.size) (hf : DataW.trod enc P w 0 spare held fuel t cs = some x) :
    ∃ (A : Option Addr) (len cap : Nat) (xs : List Value), cs = [.slice A len cap] ∧ len ≤ cap ∧ cap ≤ maxLen ∧ xs.length = len * ks.length ∧ Rd w w.heap.size A xs ∧ (∀ i, i < len → Kinds ks ((xs.drop (i * ks.length)).take ks.length)) := by
  rcases open_slice ht hf with ⟨rfl, _⟩ | ⟨a, len, cap, m, n', D, Pl, rfl, _, hl, hm, hmm, hx, hi⟩
  · exact ⟨none, 0, 0, [], rfl, Nat.le_refl _, Nat.zero_le _, by simp, Rd.nil, fun i hi => absurd hi (by omega)⟩
  · have hlm : len ≤ m := by rw [hmm]; split <;> omega
    rw [hce] at hi
    have hcell : ∀ j, j < len * ks.length → ∃ u, w.cell? (a.add j) = some u := by
      intro j hj
      have hq : j / ks.length < len := Nat.div_lt_of_lt_mul (by rw [Nat.mul_comm]; exact hj)
      obtain ⟨cs', hc, _⟩ := hi (j / ks.length) (by omega)
      obtain ⟨_, hcl, hat⟩ := cells_at hc
      have hr : j % ks.length < ks.length := Nat.mod_lt _ hpos
      have := hat (j % ks.length) hr
      rw [List.getElem?_eq_getElem (by omega), Go.Deep.add_add] at this
      rw [show j / ks.length * ks.length + j % ks.length = j from Nat.div_add_mod' _ _] at this
      exact ⟨_, this⟩
    refine ⟨some a, len, cap, (List.range (len * ks.length)).map fun j => (w.cell? (a.add j)).getD undef, rfl, hl, hm, by simp, ?_, ?_⟩
    · intro hne
      have hpos' : 0 < len * ks.length := by
        rcases Nat.eq_zero_or_pos (len * ks.length) with h0 | h0
        · rw [h0] at hne; simp at hne
        · exact h0
      obtain ⟨u, hu⟩ := hcell 0 hpos'
      have hlen : 0 < len := Nat.pos_of_mul_pos_right hpos'
      have hspot : a.spot = none := by
        have := World.cell?_spot hu
        simpa [Addr.add] using this
      obtain ⟨b, off, spot⟩ := a
      simp only at hspot
      subst hspot
      refine ⟨b, off, rfl, ?_, fun j u hu => ?_⟩
      · have : MemPlace.cell b off ∈ x.2 := by
          rw [hx]
          refine List.mem_append_left _ ?_
          unfold MemPlace.row
          rw [List.mem_map]
          refine ⟨0, ?_, by simp⟩
          rw [List.mem_range, hce]
          exact Nat.mul_pos (by omega) hpos
        exact hlt _ this
      · have hj : j < len * ks.length := by
          have := (List.getElem?_eq_some_iff.1 hu).1
          simpa using this
        simp only [List.getElem?_map, List.getElem?_range hj, Option.map_some, Option.some.injEq] at hu
        obtain ⟨u', hu'⟩ := hcell j hj
        rw [hu'] at hu
        simp only [Option.getD_some] at hu
        subst hu
        have he : (⟨b, off, none⟩ : Addr).add j = ⟨b, off + j, none⟩ := by unfold Addr.add; split <;> simp_all
        rw [he] at hu'
        exact hu'
    · intro i hilt
      obtain ⟨cs', hc, htr⟩ := hi i (by omega)
      obtain ⟨_, hcl, hat⟩ := cells_at hc
      have hkk := flat_ok n e ks hk n' cs' _ htr
      have hle : (i + 1) * ks.length ≤ len * ks.length := Nat.mul_le_mul_right _ hilt
      rw [Nat.add_mul, Nat.one_mul] at hle
      have heq : ((((List.range (len * ks.length)).map fun j => (w.cell? (a.add j)).getD undef).drop (i * ks.length)).take ks.length) = cs' := by
        apply List.ext_getElem?
        intro j
        by_cases hj : j < ks.length
        · rw [List.getElem?_take, if_pos hj, List.getElem?_drop]
          simp only [List.getElem?_map, List.getElem?_range (show i * ks.length + j < len * ks.length by omega), Option.map_some]
          have := hat j hj
          rw [Go.Deep.add_add] at this
          rw [this, List.getElem?_eq_getElem (by omega)]
          rfl
        · rw [List.getElem?_take, if_neg hj, List.getElem?_eq_none (by omega)]
      rw [heq]
      exact hkk
/-- A slice of slices of flat elements, opened. -/
theorem open_rows {t e1 e : TypeId} {n : Nat} {ks : List Sc} {v : Value} {d : DataW H} {p : List MemPlace} {r : Reach} {b0 : Nat} (ht : P.underlying t = some (.slice e1)) (ht1 : P.underlying e1 = some (.slice e)) (hc1 : P.cellsOf e1 = 1) (hk : flat P n e = some ks) (hce : P.cellsOf e = ks.length) (hpos : 0 < ks.length)
    (hv : Value.okWide P w r b0 t v) (h : DataW.Trod enc P w 0 spare held t v d p) :
    ∃ (A : Option Addr) (len cap : Nat) (ss : List (Option Addr × Nat × Nat)), v = .slice A len cap ∧ len ≤ cap ∧ cap ≤ maxLen ∧ ss.length = len ∧ Rd w w.heap.size A (ss.map fun s => .slice s.1 s.2.1 s.2.2) ∧
      (∀ (i : Nat) (s : Option Addr × Nat × Nat), ss[i]? = some s → s.2.1 ≤ s.2.2 ∧ s.2.2 ≤ maxLen ∧ ∃ xs : List Value, xs.length = s.2.1 * ks.length ∧ Rd w w.heap.size s.1 xs ∧ ∀ j, j < s.2.1 → Kinds ks ((xs.drop (j * ks.length)).take ks.length)) := by
  obtain ⟨A, len, cap, rfl⟩ := okWide_slice ht hv
  have hlt : ∀ x ∈ p, x.block < w.heap.size := by obtain ⟨m, hm⟩ := h; exact DataW.trod_lt m _ _ _ hm
  obtain ⟨fuel, hf⟩ := h
  rcases open_slice ht hf with ⟨h0, _⟩ | ⟨a, len', cap', m, n', D, Pl, h0, _, hl, hm, hmm, hx, hi⟩
  · simp [Value.cells] at h0
    obtain ⟨rfl, rfl, rfl⟩ := h0
    exact ⟨none, 0, 0, [], rfl, Nat.le_refl _, Nat.zero_le _, rfl, Rd.nil, fun i s hs => by simp at hs⟩
  · simp [Value.cells] at h0
    obtain ⟨rfl, rfl, rfl⟩ := h0
    have hlm : len ≤ m := by rw [hmm]; split <;> omega
    rw [hc1] at hi hx
    simp only [Prod.mk.injEq] at hx
    obtain ⟨ss, hsl, hss⟩ := exists_list (Q := fun i (s : Option Addr × Nat × Nat) => w.cell? (a.add i) = some (.slice s.1 s.2.1 s.2.2) ∧ s.2.1 ≤ s.2.2 ∧ s.2.2 ≤ maxLen ∧ ∃ xs : List Value, xs.length = s.2.1 * ks.length ∧ Rd w w.heap.size s.1 xs ∧ ∀ j, j < s.2.1 → Kinds ks ((xs.drop (j * ks.length)).take ks.length)) len (fun i hil => by
      obtain ⟨cs', hc, htr⟩ := hi i (by omega)
      obtain ⟨_, hcl, hat⟩ := cells_at hc
      have hpl : ∀ y ∈ Pl i, y.block < w.heap.size := fun y hy => hlt y (by
        rw [hx.2]
        exact List.mem_append_right _ (List.mem_flatMap.2 ⟨i, List.mem_range.2 (by omega), hy⟩))
      obtain ⟨A, n1, c1, xs, rfl, g1, g2, g3, g4, g5⟩ := open_flat_in ht1 hk hce hpos hpl htr
      have h0 := hat 0 (by omega)
      rw [Nat.mul_one, Go.Deep.add_add] at h0
      exact ⟨(A, n1, c1), h0, g1, g2, xs, g3, g4, g5⟩)
    refine ⟨some a, len, cap, ss, rfl, hl, hm, hsl, ?_, fun i s hs => (hss i s hs).2⟩
    intro hne
    have hlen : 0 < len := by
      rcases Nat.eq_zero_or_pos len with e0 | e0
      · rw [e0] at hsl; have := List.eq_nil_of_length_eq_zero hsl; subst this; simp at hne
      · exact e0
    obtain ⟨s0, hs0⟩ : ∃ s, ss[0]? = some s := ⟨_, List.getElem?_eq_getElem (by omega)⟩
    have hspot : a.spot = none := by
      have := World.cell?_spot (hss 0 s0 hs0).1
      simpa [Addr.add] using this
    obtain ⟨b, off, spot⟩ := a
    simp only at hspot
    subst hspot
    refine ⟨b, off, rfl, ?_, fun j u hu => ?_⟩
    · have : MemPlace.cell b off ∈ p := by
        rw [hx.2]
        refine List.mem_append_left _ ?_
        unfold MemPlace.row
        rw [List.mem_map]
        exact ⟨0, List.mem_range.2 (by omega), by simp⟩
      exact hlt _ this
    · rw [List.getElem?_map, Option.map_eq_some_iff] at hu
      obtain ⟨s, hs, rfl⟩ := hu
      have := (hss j s hs).1
      have he : (⟨b, off, none⟩ : Addr).add j = ⟨b, off + j, none⟩ := by unfold Addr.add; split <;> simp_all
      rw [he] at this
      exact this
end
end Go.Proofs.Ythfdmeikpbkpaaa
