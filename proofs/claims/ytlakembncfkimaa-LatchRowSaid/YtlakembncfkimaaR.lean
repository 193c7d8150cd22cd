/- latch: rows of readers -/
import Derived.Test.YtlakembncfkimaaQ
set_option linter.unusedVariables false
set_option linter.unusedSimpArgs false
namespace Go.Proofs.Ytlakembncfkimaa
open Go.Sep Go.RowKit

/-- How many are let in together. -/
def grp : List Bool → Nat
  | [] => 0
  | true :: _ => 1
  | false :: l => lead l + 1
def aft (a : Nat) : List Bool → La
  | [] => ⟨0, [], -1, []⟩
  | true :: l => ⟨0, [], a, wq (a + 1) l⟩
  | false :: l => ⟨0, rgn a (lead l + 1), -1, wq (a + (lead l + 1)) (l.drop (lead l))⟩
def mid (a : Nat) (j : Nat) : List Bool → La
  | [] => ⟨0, [], -1, []⟩
  | true :: l => ⟨0, [], a, wq (a + 1) l⟩
  | false :: l => ⟨0, rgn (a + j) (lead l + 1 - j), -1, wq (a + (lead l + 1)) (l.drop (lead l))⟩
def stp (a : Nat) (s : List Bool) (j : Nat) : List Int × La := if j = grp s then (rgn (a + grp s) (grp (s.drop (grp s))), aft (a + grp s) (s.drop (grp s))) else ([], mid a j s)
theorem let_busy (a : Nat) (q0 : List Wt) : ∀ q : List Wt, letQ q ⟨0, [], (a : Int), q0⟩ = ([], ⟨0, [], (a : Int), q⟩)
  | [] => rfl
  | w :: q => by
    have ho : openB ⟨0, [], (a : Int), q0⟩ w.2 = false := by
      unfold openB
      rw [decide_eq_false (show ¬ (a : Int) = -1 by omega)]; rfl
    simp [letQ, ho]
theorem gs_eq (a : Nat) (q : List Wt) : ∀ s : List Bool, letQ (wq a s) ⟨0, [], -1, q⟩ = (rgn a (grp s), aft a s)
  | [] => rfl
  | true :: l => by
    have ho : openB ⟨0, [], -1, q⟩ true = true := rfl
    have hb := let_busy a q (wq (a + 1) l)
    simp only [wq, letQ, ho, if_true, giveL, hb]; rfl
  | false :: l => by
    have h := let_readers a [] (false :: l) 0 q (.inr (.inr (by simp))) (fun x hx => absurd hx List.not_mem_nil)
    simp only [Nat.add_zero, Nat.zero_add, rgn, List.nil_append, List.append_nil] at h
    rw [h]
    simp only [lead, Bool.false_eq_true, if_false, grp, aft, List.drop_succ_cons]
theorem let_shut (k : Nat) (r : List Int) (hr : r ≠ []) (q : List Wt) : ∀ s : List Bool, s.head? ≠ some false → letQ (wq k s) ⟨0, r, -1, q⟩ = ([], ⟨0, r, -1, wq k s⟩)
  | [], _ => rfl
  | true :: s, _ => by
    have ho : openB ⟨0, r, -1, q⟩ true = false := by
      have hl : ¬ r.length = 0 := fun e => hr (List.eq_nil_of_length_eq_zero e)
      simp only [openB, Bool.not_true, Bool.false_or, decide_eq_false hl, Bool.and_false]
    simp [wq, letQ, ho]
  | false :: s, h => absurd rfl h
theorem rgn_filter (a n : Nat) : (rgn a (n + 1)).filter (fun x => decide (x ≠ (a : Int))) = rgn (a + 1) n := by
  rw [rgn, List.filter_cons_of_neg (by simp)]
  exact List.filter_eq_self.2 (fun x hx => by have := (rgn_mem _ _ _).1 hx; simp; omega)
theorem head_stop (l : List Bool) : (l.drop (lead l)).head? ≠ some false := by
  rw [List.head?_drop]; exact lead_stop l
theorem grp_le : ∀ s : List Bool, grp s ≤ s.length
  | [] => Nat.le_refl _
  | true :: l => by simp [grp]
  | false :: l => by have := lead_le l; simp [grp]; exact this
theorem grp_pos {s : List Bool} (h : s ≠ []) : 0 < grp s := by
  match s, h with
  | true :: l, _ => simp [grp]
  | false :: l, _ => simp [grp]
theorem stp_zero {a : Nat} {s : List Bool} (h : s ≠ []) : stp a s 0 = ([], aft a s) := by
  have := grp_pos h
  unfold stp
  rw [if_neg (by omega)]
  match s, h with
  | true :: l, _ => rfl
  | false :: l, _ => simp [mid, aft]
theorem stp_succ {a : Nat} {s : List Bool} {j : Nat} (h : j < grp s) : dropL (stp a s j).2 ((a + j : Nat) : Int) = stp a s (j + 1) := by
  unfold stp
  rw [if_neg (show ¬ j = grp s by omega)]
  unfold dropL
  rw [if_neg (show ¬ ((a + j : Nat) : Int) < 0 by omega)]
  match s, h with
  | true :: l, h =>
    have hj : j = 0 := by simp [grp] at h; exact h
    subst hj
    rw [if_pos (by rfl)]
    have hl : leaveL (mid a 0 (true :: l)) ((a + 0 : Nat) : Int) = ⟨0, [], -1, wq (a + 1) l⟩ := by
      simp only [leaveL, mid, Nat.add_zero, if_true, List.filter_nil]
      rw [wq_no (by omega)]
    rw [hl]
    exact gs_eq (a + 1) _ l
  | false :: l, h =>
    simp only [grp] at h
    have hll := lead_le l
    have hq : (wq (a + (lead l + 1)) (l.drop (lead l))).filter (fun y => decide (y.1 ≠ ((a + j : Nat) : Int))) = wq (a + (lead l + 1)) (l.drop (lead l)) := wq_no (by omega)
    obtain ⟨k, hk⟩ : ∃ k, lead l + 1 - j = k + 1 := ⟨lead l - j, by omega⟩
    have hl : leaveL (mid a j (false :: l)) ((a + j : Nat) : Int) = ⟨0, rgn (a + j + 1) k, -1, wq (a + (lead l + 1)) (l.drop (lead l))⟩ := by
      simp only [leaveL, mid, hk, hq, rgn_filter]
      rw [if_neg (show ¬ (-1 : Int) = ((a + j : Nat) : Int) by omega)]
    rw [hl]
    by_cases hlast : j + 1 = grp (false :: l)
    · rw [if_pos hlast]
      have hk0 : k = 0 := by simp only [grp] at hlast; omega
      subst hk0
      exact gs_eq (a + (lead l + 1)) _ (l.drop (lead l))
    · rw [if_neg hlast]
      have hkp : 0 < k := by simp only [grp] at hlast; omega
      have hr : rgn (a + j + 1) k ≠ [] := fun e => by have := congrArg List.length e; rw [rgn_len] at this; simp at this; omega
      refine (let_shut _ _ hr _ _ (head_stop l)).trans ?_
      simp only [mid]
      rw [show lead l + 1 - (j + 1) = k from by omega, show a + (j + 1) = a + j + 1 from rfl]
theorem grp_at {l : List Bool} {a n : Nat} (h : n < grp (l.drop a)) (h1 : 1 ≤ n) : l[a]? = some false ∧ l[a + n]? = some false := by
  have e0 : (l.drop a)[0]? = l[a]? := by rw [List.getElem?_drop, Nat.add_zero]
  have en : (l.drop a)[n]? = l[a + n]? := by rw [List.getElem?_drop]
  rw [← e0, ← en]
  cases hs : l.drop a with
  | nil => rw [hs] at h; simp [grp] at h
  | cons x s =>
    rw [hs] at h
    cases x with
    | true => simp [grp] at h; omega
    | false =>
      simp only [grp] at h
      have := lead_at (false :: s) n (by simp only [lead, Bool.false_eq_true, if_false]; omega)
      exact ⟨rfl, this⟩
theorem grp_go {l : List Bool} {a n : Nat} (h : n ≤ grp (l.drop a)) (h0 : l[a]? = some false) (hn : l[a + n]? = some false) : n < grp (l.drop a) := by
  have e0 : (l.drop a)[0]? = l[a]? := by rw [List.getElem?_drop, Nat.add_zero]
  have en : (l.drop a)[n]? = l[a + n]? := by rw [List.getElem?_drop]
  rw [← e0] at h0; rw [← en] at hn
  cases hs : l.drop a with
  | nil => rw [hs] at h0; simp at h0
  | cons x s =>
    rw [hs] at h h0 hn
    simp at h0; subst h0
    rcases Nat.lt_or_ge n (grp (false :: s)) with hlt | hge
    · exact hlt
    · have e : n = lead (false :: s) := by simp only [grp] at h hge; simp only [lead, Bool.false_eq_true, if_false]; omega
      exact absurd (e ▸ hn) (lead_stop _)
theorem drop_bsy {ws : List Bool} {c : Nat} (hc : ws.length ≤ c) : dropL (bsy c ws) c = (rgn 0 (grp ws), aft 0 ws) := by
  unfold dropL
  rw [if_neg (by omega)]
  have hl : leaveL (bsy c ws) c = ⟨0, [], -1, wq 0 ws⟩ := by
    simp only [leaveL, bsy, if_true, List.filter_nil]
    rw [wq_no (by omega)]
  rw [hl]
  exact gs_eq 0 _ ws

end Go.Proofs.Ytlakembncfkimaa
