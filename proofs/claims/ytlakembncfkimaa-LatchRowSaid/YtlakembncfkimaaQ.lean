/- latch: plain facts -/
import Derived.Test.YtlakembncfkimaaF
set_option linter.unusedVariables false
set_option linter.unusedSimpArgs false
namespace Go.Proofs.Ytlakembncfkimaa
open Go.Sep Go.RowKit

/-- Numbers that rise. -/
def rgn : Nat → Nat → List Int
  | _, 0 => []
  | a, n + 1 => (a : Int) :: rgn (a + 1) n
theorem rgn_len : ∀ (n a : Nat), (rgn a n).length = n
  | 0, a => rfl
  | n + 1, a => by rw [rgn, List.length_cons, rgn_len n]
theorem rgn_get : ∀ (n a i : Nat), i < n → (rgn a n)[i]? = some ((a + i : Nat) : Int)
  | 0, a, i, h => by omega
  | n + 1, a, 0, h => rfl
  | n + 1, a, i + 1, h => by
    have := rgn_get n (a + 1) i (by omega)
    rw [rgn, List.getElem?_cons_succ, this]; congr 2; omega
theorem rgn_snoc : ∀ (n a : Nat), rgn a (n + 1) = rgn a n ++ [((a + n : Nat) : Int)]
  | 0, a => rfl
  | n + 1, a => by
    rw [rgn, rgn_snoc n (a + 1)]
    show _ = (a : Int) :: rgn (a + 1) n ++ _
    rw [List.cons_append, show a + 1 + n = a + (n + 1) from by omega]
theorem rgn_mem : ∀ (n a : Nat) (x : Int), x ∈ rgn a n ↔ (a : Int) ≤ x ∧ x < a + n
  | 0, a, x => ⟨fun h => absurd h List.not_mem_nil, fun h => by omega⟩
  | n + 1, a, x => by
    rw [rgn, List.mem_cons, rgn_mem n (a + 1)]; omega
/-- Who waits, from a number on. -/
def wq : Nat → List Bool → List Wt
  | _, [] => []
  | i, b :: l => ((i : Int), b) :: wq (i + 1) l
theorem wq_len : ∀ (l : List Bool) (i : Nat), (wq i l).length = l.length
  | [], i => rfl
  | b :: l, i => by rw [wq, List.length_cons, wq_len l, List.length_cons]
theorem wq_snoc : ∀ (l : List Bool) (i : Nat) (b : Bool), wq i (l ++ [b]) = wq i l ++ [(((i + l.length : Nat) : Int), b)]
  | [], i, b => rfl
  | c :: l, i, b => by
    rw [List.cons_append, wq, wq_snoc l (i + 1) b, wq, List.cons_append]
    congr 3; simp only [List.length_cons]; congr 2; omega
theorem wq_fst : ∀ (l : List Bool) (i : Nat), (wq i l).map Prod.fst = rgn i l.length
  | [], i => rfl
  | b :: l, i => by rw [wq, List.map_cons, wq_fst l (i + 1)]; rfl
theorem wq_mem {l : List Bool} {i : Nat} {x : Int} : x ∈ (wq i l).map Prod.fst ↔ (i : Int) ≤ x ∧ x < i + l.length := by rw [wq_fst, rgn_mem]
theorem wq_no {l : List Bool} {i : Nat} {x : Int} (h : ¬ ((i : Int) ≤ x ∧ x < i + l.length)) : (wq i l).filter (fun y => decide (y.1 ≠ x)) = wq i l := filter_no (fun hm => h (wq_mem.1 hm))
/-- One writes, others wait. -/
def bsy (c : Nat) (ws : List Bool) : La := ⟨0, [], c, wq 0 ws⟩
theorem bsy_take {c : Nat} {ws : List Bool} {b : Bool} (hc : ws.length < c) : tryB (bsy c ws) ws.length b = false ∧ takeL (bsy c ws) ws.length b = bsy c (ws ++ [b]) := by
  have hm : mayB (bsy c ws) ws.length = true := by
    unfold mayB
    refine decide_eq_true ⟨by omega, ?_, List.not_mem_nil, fun hx => ?_⟩
    · show (c : Int) ≠ _; omega
    · have := wq_mem.1 hx; omega
  have ho : openB (bsy c ws) b = false := by
    unfold openB
    rw [decide_eq_false (show ¬ (bsy c ws).wr = -1 by show ¬ (c : Int) = -1; omega)]; rfl
  have ht : tryB (bsy c ws) ws.length b = false := by unfold tryB; rw [ho, Bool.and_false]
  refine ⟨ht, ?_⟩
  unfold takeL
  rw [hm, ht]
  simp only [if_true, Bool.false_eq_true, if_false, queueL, bsy, wq_snoc, Nat.zero_add]
theorem bsy_new (c : Nat) : tryB newL c true = true ∧ takeL newL c true = bsy c [] := by
  have hm : mayB newL c = true := by
    unfold mayB
    exact decide_eq_true ⟨by omega, by show (-1 : Int) ≠ _; omega, List.not_mem_nil, List.not_mem_nil⟩
  have ht : tryB newL c true = true := by unfold tryB; rw [hm]; rfl
  refine ⟨ht, ?_⟩
  unfold takeL
  rw [hm, ht]; rfl
/-- How many readers stand at the front. -/
def lead : List Bool → Nat
  | [] => 0
  | b :: l => if b then 0 else lead l + 1
theorem lead_le : ∀ l : List Bool, lead l ≤ l.length
  | [] => Nat.le_refl _
  | b :: l => by
    have := lead_le l
    simp only [lead, List.length_cons]; split <;> omega
theorem lead_snoc : ∀ (l : List Bool) (b : Bool), lead (l ++ [b]) = if lead l = l.length ∧ b = false then lead l + 1 else lead l
  | [], b => by cases b <;> rfl
  | c :: l, b => by
    have := lead_snoc l b
    cases c with
    | true => simp [lead]
    | false =>
      simp only [List.cons_append, lead, Bool.false_eq_true, if_false, this, List.length_cons, Nat.add_right_cancel_iff]
      split <;> rfl
theorem lead_at : ∀ (l : List Bool) (j : Nat), j < lead l → l[j]? = some false
  | [], j, h => by simp [lead] at h
  | true :: l, j, h => by simp [lead] at h
  | false :: l, 0, h => rfl
  | false :: l, j + 1, h => by
    simp only [lead, Bool.false_eq_true, if_false] at h
    rw [List.getElem?_cons_succ]; exact lead_at l j (by omega)
theorem lead_stop : ∀ (l : List Bool), l[lead l]? ≠ some false
  | [] => by simp [lead]
  | true :: l => by simp [lead]
  | false :: l => by
    simp only [lead, Bool.false_eq_true, if_false, List.getElem?_cons_succ]; exact lead_stop l
theorem ins_app {t : Int} : ∀ {l1 l2 : List Int}, (∀ x ∈ l1, x < t) → (∀ x ∈ l2, ¬ x < t) → ins t (l1 ++ l2) = l1 ++ t :: l2
  | [], [], _, _ => rfl
  | [], y :: l2, _, h => by
    have := h y (List.mem_cons_self ..)
    simp [ins, this]
  | x :: l1, l2, h1, h2 => by
    rw [List.cons_append, ins_cons, if_pos (h1 x (List.mem_cons_self ..)), ins_app (fun y hy => h1 y (List.mem_cons_of_mem _ hy)) h2]; rfl
/-- Readers at the front are let in. -/
theorem let_readers (a : Nat) (tl : List Int) : ∀ (ws : List Bool) (k : Nat) (q : List Wt), (0 < k ∨ tl ≠ [] ∨ ws.head? ≠ some true) → (∀ x ∈ tl, ((a + k + ws.length : Nat) : Int) ≤ x) →
    letQ (wq (a + k) ws) ⟨0, rgn a k ++ tl, -1, q⟩ = (rgn (a + k) (lead ws), ⟨0, rgn a (k + lead ws) ++ tl, -1, wq (a + k + lead ws) (ws.drop (lead ws))⟩)
  | [], k, q, hk, ht => by simp [wq, letQ, lead, rgn]
  | false :: ws, k, q, hk, ht => by
    have ho : openB ⟨0, rgn a k ++ tl, -1, q⟩ false = true := by simp [openB]
    have hi : ins ((a + k : Nat) : Int) (rgn a k ++ tl) = rgn a (k + 1) ++ tl := by
      rw [ins_app (fun x hx => by have := (rgn_mem _ _ _).1 hx; omega) (fun x hx => by have := ht x hx; simp only [List.length_cons] at this; omega), rgn_snoc, List.append_assoc]; rfl
    have ih := let_readers a tl ws (k + 1) q (.inl (by omega)) (fun x hx => by have := ht x hx; simp only [List.length_cons] at this ⊢; omega)
    simp only [wq, letQ, ho, if_true, giveL, Bool.false_eq_true, if_false, hi]
    rw [show a + k + 1 = a + (k + 1) from rfl, ih]
    have hr : rgn (a + k) (lead ws + 1) = ((a + k : Nat) : Int) :: rgn (a + k + 1) (lead ws) := rfl
    simp only [lead, Bool.false_eq_true, if_false, List.drop_succ_cons, hr]
    rw [show k + 1 + lead ws = k + (lead ws + 1) from by omega, show a + (k + 1) + lead ws = a + k + (lead ws + 1) from by omega, show a + (k + 1) = a + k + 1 from rfl]
  | true :: ws, k, q, hk, ht => by
    have hne : rgn a k ++ tl ≠ [] := by
      rcases hk with h | h | h
      · intro e
        have := congrArg List.length (List.append_eq_nil_iff.1 e).1
        rw [rgn_len] at this
        simp at this; omega
      · exact fun e => h (List.append_eq_nil_iff.1 e).2
      · simp at h
    have ho : openB ⟨0, rgn a k ++ tl, -1, q⟩ true = false := by
      have hl : ¬ (rgn a k ++ tl).length = 0 := fun e => hne (List.eq_nil_of_length_eq_zero e)
      simp only [openB, Bool.not_true, Bool.false_or, decide_eq_false hl, Bool.and_false]
    simp [wq, letQ, ho, lead, rgn]
theorem down_bsy {ws : List Bool} {c : Nat} (hc : ws.length ≤ c) : downL (bsy c ws) c = (rgn 0 (lead ws), ⟨0, rgn 0 (lead ws) ++ [(c : Int)], -1, wq (lead ws) (ws.drop (lead ws))⟩) := by
  have h := let_readers 0 [(c : Int)] ws 0 (wq 0 ws) (.inr (.inl (by simp))) (fun x hx => by simp at hx; subst hx; omega)
  simp only [Nat.zero_add, rgn, List.nil_append] at h
  unfold downL
  rw [if_neg (by show ¬ ((c : Int) < 0 ∨ (c : Int) ≠ c); omega)]
  exact h
theorem down_no {m : La} {t : Int} (h : m.wr ≠ t) : downL m t = ([], m) := by unfold downL; rw [if_pos (.inr h)]

end Go.Proofs.Ytlakembncfkimaa
