/- the line: plain -/
import Derived.Test.YtpfbagkjhchojaaWl
set_option linter.unusedVariables false
set_option linter.unusedSimpArgs false
namespace Go.Proofs.Ytpfbagkjhchojaa
open Go.Sep Go.RowKit

/-! ## The line -/
def cB (b0 b1 b2 b3 b4 : Bool) : Nat → Bool
  | 0 => b0
  | 1 => b1
  | 2 => b2
  | 3 => b3
  | 4 => b4
  | _ => false
def ln0 : Mo := (((((mo0 2).pin 7 100).2.claim 7).2.fill 100 true []).2)
def lnA (c : Nat → Bool) : Nat → Mo
  | 0 => ln0
  | t + 1 => if c t = true then ((lnA c t).claim (t : Int)).2 else ((lnA c t).pin (t : Int) (10 + (t : Int))).2
def lnF (c : Nat → Bool) (t : Nat) (M : Mo) : Mo := if 0 < t ∧ c (t - 1) = false then ((M.fill (9 + (t : Int)) true []).2.unpin (9 + (t : Int))).2 else M
def lnG (c : Nat → Bool) (t : Nat) (M : Mo) : Mo := if 0 < t ∧ c (t - 1) = true then M.give ((t : Int) - 1) else M.evict.2
def lnP (M : Mo) : Mo := (M.pin 6 200).2
def lnC (c : Nat → Bool) (t : Nat) (M : Mo) : Mo := if c t = true then (M.claim (t : Int)).2 else (M.pin (t : Int) (10 + (t : Int))).2
def lnB (c : Nat → Bool) (k : Nat) : Nat → Mo
  | 0 => ((lnA c k).unpin 100).2
  | t + 1 => lnC c t (lnP (lnG c t (lnF c t (lnB c k t))))
def lnM (c : Nat → Bool) (k t : Nat) : Mo := lnG c t (lnF c t (lnB c k t))
def okA (c : Nat → Bool) (t : Nat) : Bool := if c t = true then !((lnA c t).claim (t : Int)).1 else decide (((lnA c t).pin (t : Int) (10 + (t : Int))).1 = 4)
def okK (c : Nat → Bool) (k : Nat) : Bool := decide ((lnA c k).line.length = k) && ((lnA c k).unpin 100).1 && decide ((lnB c k k).line.length = 1)
def okB (c : Nat → Bool) (k t : Nat) : Bool :=
  (decide (0 < t ∧ c (t - 1) = true) || (lnF c t (lnB c k t)).evict.1.isSome) && decide ((lnM c k t).free = 1) && (lnM c k t).may (t : Int) && (decide (k ≤ t + 1) || !(lnM c k t).may ((t : Int) + 1)) && decide (((lnM c k t).pin 6 200).1 = 4) &&
    (if c t = true then ((lnP (lnM c k t)).claim (t : Int)).1 else decide (((lnP (lnM c k t)).pin (t : Int) (10 + (t : Int))).1 = 3))
set_option maxRecDepth 100000 in
theorem allA : ∀ (b0 b1 b2 b3 b4 : Bool), (List.range 5).all (okA (cB b0 b1 b2 b3 b4)) = true := by decide +kernel
set_option maxRecDepth 100000 in
theorem allK : ∀ (b0 b1 b2 b3 b4 : Bool), (List.range 5).all (fun k => okK (cB b0 b1 b2 b3 b4) (k + 1)) = true := by decide +kernel
set_option maxRecDepth 100000 in
theorem allB : ∀ (b0 b1 b2 b3 b4 : Bool), (List.range 5).all (fun k => (List.range (k + 1)).all (okB (cB b0 b1 b2 b3 b4) (k + 1))) = true := by decide +kernel
def bitsOf (l : List Bool) : Nat → Bool := cB ((l[0]?).getD false) ((l[1]?).getD false) ((l[2]?).getD false) ((l[3]?).getD false) ((l[4]?).getD false)
theorem bits_at (l : List Bool) {t : Nat} (h : t < 5) : bitsOf l t = (l[t]?).getD false := by
  rcases show t = 0 ∨ t = 1 ∨ t = 2 ∨ t = 3 ∨ t = 4 by omega with rfl | rfl | rfl | rfl | rfl <;> rfl
theorem bits_out {l : List Bool} {t : Nat} (h : t < 5) (hl : l.length ≤ t) : bitsOf l t = false := by rw [bits_at l h, List.getElem?_eq_none hl]; rfl
theorem bits_in {l : List Bool} {t : Nat} {b : Bool} (h : t < 5) (hl : l[t]? = some b) : bitsOf l t = b := by rw [bits_at l h, hl]; rfl
theorem prev_cases (l : List Bool) {i : Nat} : i = 0 ∨ (∃ j, i = j + 1 ∧ l.length ≤ j) ∨ (∃ j, i = j + 1 ∧ l[j]? = some false) ∨ (∃ j, i = j + 1 ∧ l[j]? = some true) := by
  rcases Nat.eq_zero_or_pos i with h | h
  · exact .inl h
  · refine .inr ?_
    have hj : i = (i - 1) + 1 := by omega
    by_cases hl : l.length ≤ i - 1
    · exact .inl ⟨i - 1, hj, hl⟩
    · refine .inr ?_
      have hx := List.getElem?_eq_getElem (l := l) (i := i - 1) (by omega)
      cases hb : l[i - 1]'(by omega) with
      | false => exact .inl ⟨i - 1, hj, by rw [hx, hb]⟩
      | true => exact .inr ⟨i - 1, hj, by rw [hx, hb]⟩
theorem cur_cases (l : List Bool) {i : Nat} : l.length ≤ i ∨ l[i]? = some false ∨ l[i]? = some true := by
  by_cases hl : l.length ≤ i
  · exact .inl hl
  · have hx := List.getElem?_eq_getElem (l := l) (i := i) (by omega)
    cases hb : l[i]'(by omega) with
    | false => exact .inr (.inl (by rw [hx, hb]))
    | true => exact .inr (.inr (by rw [hx, hb]))
theorem get_lt {α : Type} {l : List α} {i : Nat} {x : α} (h : l[i]? = some x) : i < l.length := (List.getElem?_eq_some_iff.1 h).1
theorem lA (l : List Bool) {t : Nat} (h : t < 5) : okA (bitsOf l) t = true := List.all_eq_true.1 (allA _ _ _ _ _) t (List.mem_range.2 h)
theorem lK (l : List Bool) {k : Nat} (h1 : 1 ≤ k) (h5 : k ≤ 5) : okK (bitsOf l) k = true := by
  have := List.all_eq_true.1 (allK ((l[0]?).getD false) ((l[1]?).getD false) ((l[2]?).getD false) ((l[3]?).getD false) ((l[4]?).getD false)) (k - 1) (List.mem_range.2 (by omega))
  rw [show k - 1 + 1 = k by omega] at this; exact this
theorem lB (l : List Bool) {k t : Nat} (h5 : k ≤ 5) (ht : t < k) : okB (bitsOf l) k t = true := by
  have := List.all_eq_true.1 (List.all_eq_true.1 (allB ((l[0]?).getD false) ((l[1]?).getD false) ((l[2]?).getD false) ((l[3]?).getD false) ((l[4]?).getD false)) (k - 1) (List.mem_range.2 (by omega))) t (List.mem_range.2 (by omega))
  rw [show k - 1 + 1 = k by omega] at this; exact this
theorem lnA_claim {l : List Bool} {t : Nat} (h : t < 5) (hc : bitsOf l t = true) : ((lnA (bitsOf l) t).claim (t : Int)).1 = false := by
  have := lA l h; unfold okA at this; rw [if_pos hc] at this; simpa using this
theorem lnA_pin {l : List Bool} {t : Nat} (h : t < 5) (hc : bitsOf l t = false) : ((lnA (bitsOf l) t).pin (t : Int) (10 + (t : Int))).1 = 4 := by
  have := lA l h; unfold okA at this; rw [if_neg (by rw [hc]; decide)] at this; exact of_decide_eq_true this
theorem lnA_yes {c : Nat → Bool} {t : Nat} (hc : c t = true) : ((lnA c t).claim (t : Int)).2 = lnA c (t + 1) := by
  show _ = if c t = true then _ else _; rw [if_pos hc]
theorem lnA_no {c : Nat → Bool} {t : Nat} (hc : c t = false) : ((lnA c t).pin (t : Int) (10 + (t : Int))).2 = lnA c (t + 1) := by
  show _ = if c t = true then _ else _; rw [if_neg (by rw [hc]; decide)]
theorem lK1 {l : List Bool} {k : Nat} (h1 : 1 ≤ k) (h5 : k ≤ 5) : (lnA (bitsOf l) k).line.length = k ∧ ((lnA (bitsOf l) k).unpin 100).1 = true ∧ (lnB (bitsOf l) k k).line.length = 1 := by
  have := lK l h1 h5; unfold okK at this; simp only [Bool.and_eq_true, decide_eq_true_eq] at this; exact ⟨this.1.1, this.1.2, this.2⟩
theorem lB1 {l : List Bool} {k t : Nat} (h5 : k ≤ 5) (ht : t < k) : (¬ (0 < t ∧ bitsOf l (t - 1) = true) → ∃ y, (lnF (bitsOf l) t (lnB (bitsOf l) k t)).evict.1 = some y) ∧ (lnM (bitsOf l) k t).free = 1 ∧ (lnM (bitsOf l) k t).may (t : Int) = true ∧ (t + 1 < k → (lnM (bitsOf l) k t).may ((t : Int) + 1) = false) ∧ ((lnM (bitsOf l) k t).pin 6 200).1 = 4 ∧
    (bitsOf l t = true → ((lnP (lnM (bitsOf l) k t)).claim (t : Int)).1 = true) ∧ (bitsOf l t = false → ((lnP (lnM (bitsOf l) k t)).pin (t : Int) (10 + (t : Int))).1 = 3) := by
  have := lB l h5 ht; unfold okB at this; simp only [Bool.and_eq_true, decide_eq_true_eq, Bool.or_eq_true] at this
  obtain ⟨⟨⟨⟨⟨h1, h2⟩, h3⟩, h4⟩, h6⟩, h7⟩ := this
  refine ⟨fun hn => ?_, h2, h3, fun hk => ?_, h6, fun hc => ?_, fun hc => ?_⟩
  · rcases h1 with h1 | h1
    · exact absurd h1 hn
    · exact Option.isSome_iff_exists.1 h1
  · rcases h4 with h4 | h4
    · omega
    · simpa using h4
  · rw [if_pos hc] at h7; exact h7
  · rw [if_neg (by rw [hc]; decide)] at h7; exact of_decide_eq_true h7
theorem lnF_no {c : Nat → Bool} {t : Nat} {M : Mo} (h : ¬ (0 < t ∧ c (t - 1) = false)) : lnF c t M = M := if_neg h
theorem lnF_yes {c : Nat → Bool} {t : Nat} {M : Mo} (h : 0 < t ∧ c (t - 1) = false) : ((M.fill (9 + (t : Int)) nvL.leaf nvL.l).2.unpin (9 + (t : Int))).2 = lnF c t M := (if_pos h).symm
theorem lnM_ev {c : Nat → Bool} {k t : Nat} (h : ¬ (0 < t ∧ c (t - 1) = true)) : (lnF c t (lnB c k t)).evict.2 = lnM c k t := (if_neg h).symm
theorem lnM_give {c : Nat → Bool} {k t : Nat} (h : 0 < t ∧ c (t - 1) = true) : (lnF c t (lnB c k t)).give ((t : Int) - 1) = lnM c k t := (if_pos h).symm
theorem lnB_claim {c : Nat → Bool} {k t : Nat} (h : c t = true) : ((lnP (lnM c k t)).claim (t : Int)).2 = lnB c k (t + 1) := (if_pos h).symm
theorem lnB_pin {c : Nat → Bool} {k t : Nat} (h : c t = false) : ((lnP (lnM c k t)).pin (t : Int) (10 + (t : Int))).2 = lnB c k (t + 1) := (if_neg (by rw [h]; decide)).symm

end Go.Proofs.Ytpfbagkjhchojaa
