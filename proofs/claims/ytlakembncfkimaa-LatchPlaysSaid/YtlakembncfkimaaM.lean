/- latch: what a latch is. -/
import Derived.Test.YtlakembncfkimaaS7
set_option linter.unusedVariables false
set_option linter.unusedSimpArgs false
namespace Go.Proofs.Ytlakembncfkimaa
open Go.Sep Go.RowKit

/-- A task that waits: for writing? -/
abbrev Wt := Int × Bool
/-- A latch: pins, who reads (rising), who writes (-1), who waits. -/
structure La where
  pins : Int
  rd : List Int
  wr : Int
  q : List Wt
def ins (t : Int) (l : List Int) : List Int := l.takeWhile (fun x => decide (x < t)) ++ t :: l.dropWhile (fun x => decide (x < t))
def mayB (m : La) (t : Int) : Bool := decide (0 ≤ t ∧ m.wr ≠ t ∧ t ∉ m.rd ∧ t ∉ m.q.map Prod.fst)
def openB (m : La) (w : Bool) : Bool := decide (m.wr = -1) && (!w || decide (m.rd.length = 0))
def giveL (m : La) (t : Int) (w : Bool) : La := if w then { m with wr := t } else { m with rd := ins t m.rd }
def letQ : List Wt → La → List Int × La
  | [], m => ([], { m with q := [] })
  | w :: q, m => if openB m w.2 then (w.1 :: (letQ q (giveL m w.1 w.2)).1, (letQ q (giveL m w.1 w.2)).2) else ([], { m with q := w :: q })
def letL (m : La) : List Int × La := letQ m.q m
def tryB (m : La) (t : Int) (w : Bool) : Bool := mayB m t && decide (m.q.length = 0) && openB m w
def tryL (m : La) (t : Int) (w : Bool) : La := if tryB m t w then giveL m t w else m
def queueL (m : La) (t : Int) (w : Bool) : La := { m with q := m.q ++ [(t, w)] }
def takeL (m : La) (t : Int) (w : Bool) : La := if mayB m t then (if tryB m t w then giveL m t w else queueL m t w) else m
def leaveL (m : La) (t : Int) : La := { m with wr := if m.wr = t then -1 else m.wr, rd := m.rd.filter (fun x => decide (x ≠ t)), q := m.q.filter (fun x => decide (x.1 ≠ t)) }
def dropL (m : La) (t : Int) : List Int × La := if t < 0 then ([], m) else letL (leaveL m t)
def downL (m : La) (t : Int) : List Int × La := if t < 0 ∨ m.wr ≠ t then ([], m) else letL (giveL { m with wr := -1 } t false)
def idleB (m : La) : Bool := openB m true && decide (m.q.length = 0) && decide (m.pins = 0)
def unpinL (m : La) : La := if m.pins = 0 then m else { m with pins := m.pins - 1 }
def newL : La := ⟨0, [], -1, []⟩

/-! ## Who has it, who waits -/
def tasks (m : La) : List Int := (if 0 ≤ m.wr then [m.wr] else []) ++ (m.rd ++ m.q.map Prod.fst)
structure La.Ok0 (m : La) : Prop where
  nd : (tasks m).Nodup
  nn : ∀ x ∈ tasks m, 0 ≤ x
  srt : m.rd.Pairwise (· < ·)
  wr : -1 ≤ m.wr
  ex : 0 ≤ m.wr → m.rd = []
structure La.Ok (m : La) (n : Nat) : Prop extends La.Ok0 m where
  len : (tasks m).length ≤ n
  pn : 0 ≤ m.pins ∧ m.pins ≤ n
theorem La.Ok.mono {m : La} {n k : Nat} (h : m.Ok n) (hk : n ≤ k) : m.Ok k := ⟨h.toOk0, Nat.le_trans h.len hk, h.pn.1, by have := h.pn.2; omega⟩
theorem La.Ok.lens {m : La} {n : Nat} (h : m.Ok n) : m.rd.length ≤ n ∧ m.q.length ≤ n := by
  have := h.len
  simp only [tasks, List.length_append, List.length_map] at this
  omega
theorem La.Ok0.rn {m : La} (h : m.Ok0) : m.rd.Nodup := h.srt.imp (fun h => Int.ne_of_lt h)
theorem La.Ok0.qn {m : La} (h : m.Ok0) : (m.q.map Prod.fst).Nodup := by
  have := h.nd
  simp only [tasks, List.nodup_append] at this
  exact this.2.1.2.1
theorem La.Ok0.may {m : La} (h : m.Ok0) (t : Int) (ht : 0 ≤ t) : mayB m t = decide (t ∉ tasks m) := by
  have := h.wr
  unfold mayB tasks
  rw [decide_eq_decide]
  simp only [List.mem_append, not_or]
  by_cases hw : 0 ≤ m.wr
  · rw [if_pos hw]; simp only [List.mem_singleton]; exact ⟨fun x => ⟨fun e => x.2.1 e.symm, x.2.2⟩, fun x => ⟨ht, fun e => x.1 e.symm, x.2⟩⟩
  · rw [if_neg hw]; exact ⟨fun x => ⟨List.not_mem_nil, x.2.2⟩, fun x => ⟨ht, by omega, x.2⟩⟩
theorem new_ok : newL.Ok 0 := ⟨⟨by decide, by decide, List.Pairwise.nil, by decide, fun _ => rfl⟩, by decide, by decide⟩

theorem ins_perm (t : Int) (l : List Int) : (ins t l).Perm (t :: l) := by
  unfold ins
  refine List.perm_middle.trans ?_
  rw [List.takeWhile_append_dropWhile]
theorem ins_mem {t x : Int} {l : List Int} : x ∈ ins t l ↔ x = t ∨ x ∈ l := by rw [(ins_perm t l).mem_iff, List.mem_cons]
theorem ins_len (t : Int) (l : List Int) : (ins t l).length = l.length + 1 := (ins_perm t l).length_eq
theorem take_of {l : List Int} {t : Int} : ∀ {i : Nat}, i ≤ l.length → (∀ k, k < i → l.getD k 0 < t) → (∀ (h : i < l.length), t ≤ l.getD i 0) → l.takeWhile (fun x => decide (x < t)) = l.take i ∧ l.dropWhile (fun x => decide (x < t)) = l.drop i := by
  induction l with
  | nil => intro i hi _ _; simp
  | cons x l ih =>
    intro i hi h1 h2
    cases i with
    | zero =>
      have := h2 (by simp)
      have hx : ¬ x < t := by simp at this; omega
      simp [hx]
    | succ i =>
      have h0 := h1 0 (by omega)
      simp at h0
      have := ih (i := i) (by simpa using hi) (fun k hk => by have := h1 (k + 1) (by omega); simpa using this) (fun h => by have := h2 (by simpa using h); simpa using this)
      simp [h0, this.1, this.2]
theorem ins_eq {l : List Int} {t : Int} {i : Nat} (hi : i ≤ l.length) (h1 : ∀ k, k < i → l.getD k 0 < t) (h2 : ∀ (h : i < l.length), t ≤ l.getD i 0) : ins t l = l.take i ++ t :: l.drop i := by
  obtain ⟨a, b⟩ := take_of hi h1 h2
  rw [ins, a, b]
theorem ins_cons {t x : Int} {l : List Int} : ins t (x :: l) = if x < t then x :: ins t l else t :: x :: l := by
  unfold ins
  by_cases h : x < t <;> simp [h]
theorem ins_sorted {t : Int} : ∀ {l : List Int}, l.Pairwise (· < ·) → t ∉ l → (ins t l).Pairwise (· < ·)
  | [], _, _ => by simp [ins]
  | x :: l, h, hn => by
    rw [ins_cons]
    have hx := List.pairwise_cons.1 h
    simp only [List.mem_cons, not_or] at hn
    split
    · rename_i hlt
      refine List.pairwise_cons.2 ⟨fun y hy => ?_, ins_sorted hx.2 hn.2⟩
      rcases ins_mem.1 hy with rfl | hy
      · exact hlt
      · exact hx.1 y hy
    · rename_i hlt
      have h3 : t < x := by omega
      refine List.pairwise_cons.2 ⟨fun y hy => ?_, h⟩
      rcases List.mem_cons.1 hy with rfl | hy
      · exact h3
      · exact Int.lt_trans h3 (hx.1 y hy)

theorem openB_iff {m : La} {w : Bool} : openB m w = true ↔ m.wr = -1 ∧ (w = true → m.rd = []) := by
  unfold openB
  cases w <;> simp [List.length_eq_zero_iff]
/-- One more has it. -/
theorem give_tasks {m : La} {t : Int} {w : Bool} (ht : 0 ≤ t) (ho : openB m w = true) : (tasks (giveL m t w)).Perm (t :: tasks m) := by
  obtain ⟨hw, hr⟩ := openB_iff.1 ho
  unfold giveL
  cases w with
  | true => simp [tasks, hw, hr rfl, ht]
  | false =>
    simp only [tasks, hw, Bool.false_eq_true, if_false]
    simpa using (ins_perm t m.rd).append_right _
theorem give_ok0 {m : La} {t : Int} {w : Bool} (h : m.Ok0) (ht : 0 ≤ t) (hn : t ∉ tasks m) (ho : openB m w = true) : (giveL m t w).Ok0 := by
  have hp := give_tasks ht ho
  obtain ⟨hw, hr⟩ := openB_iff.1 ho
  refine ⟨hp.nodup_iff.2 (List.nodup_cons.2 ⟨hn, h.nd⟩), fun x hx => ?_, ?_, ?_, ?_⟩
  · rcases List.mem_cons.1 (hp.mem_iff.1 hx) with rfl | hx
    · exact ht
    · exact h.nn x hx
  · unfold giveL
    cases w with
    | true => exact h.srt
    | false => exact ins_sorted h.srt (fun hx => hn (by simp [tasks, hx]))
  · unfold giveL; cases w <;> simp <;> omega
  · unfold giveL; cases w with
    | true => exact fun _ => hr rfl
    | false => intro hc; simp at hc; omega
theorem give_pins (m : La) (t : Int) (w : Bool) : (giveL m t w).pins = m.pins := by unfold giveL; split <;> rfl
theorem give_q (m : La) (t : Int) (w : Bool) : (giveL m t w).q = m.q := by unfold giveL; split <;> rfl
theorem give_ok {m : La} {n : Nat} {t : Int} {w : Bool} (h : m.Ok n) (ht : 0 ≤ t) (hn : t ∉ tasks m) (ho : openB m w = true) : (giveL m t w).Ok (n + 1) :=
  ⟨give_ok0 h.toOk0 ht hn ho, by rw [(give_tasks ht ho).length_eq]; simpa using h.len, by rw [give_pins]; have := h.pn; omega⟩
theorem queue_tasks (m : La) (t : Int) (w : Bool) : (tasks (queueL m t w)).Perm (t :: tasks m) := by
  have : tasks (queueL m t w) = tasks m ++ [t] := by simp [tasks, queueL, List.append_assoc]; rfl
  rw [this]
  exact List.perm_append_singleton t (tasks m)
theorem queue_ok {m : La} {n : Nat} {t : Int} {w : Bool} (h : m.Ok n) (ht : 0 ≤ t) (hn : t ∉ tasks m) : (queueL m t w).Ok (n + 1) := by
  have hp := queue_tasks m t w
  refine ⟨⟨hp.nodup_iff.2 (List.nodup_cons.2 ⟨hn, h.nd⟩), fun x hx => ?_, h.srt, h.wr, h.ex⟩, by rw [hp.length_eq]; simpa using h.len, h.pn.1, by have := h.pn.2; show m.pins ≤ _; omega⟩
  rcases List.mem_cons.1 (hp.mem_iff.1 hx) with rfl | hx
  · exact ht
  · exact h.nn x hx
theorem take_ok {m : La} {n : Nat} (h : m.Ok n) (t : Int) (w : Bool) : (takeL m t w).Ok (n + 1) := by
  unfold takeL
  split
  · rename_i hm
    have ht : 0 ≤ t := by unfold mayB at hm; simp at hm; exact hm.1
    have hn : t ∉ tasks m := by rw [h.may t ht] at hm; simpa using hm
    split
    · rename_i ho
      unfold tryB at ho
      simp only [Bool.and_eq_true] at ho
      exact give_ok h ht hn ho.2
    · exact queue_ok h ht hn
  · exact h.mono (by omega)
theorem try_ok {m : La} {n : Nat} (h : m.Ok n) (t : Int) (w : Bool) : (tryL m t w).Ok (n + 1) := by
  unfold tryL
  split
  · rename_i ho
    unfold tryB at ho
    simp only [Bool.and_eq_true] at ho
    have hm := ho.1.1
    have ht : 0 ≤ t := by unfold mayB at hm; simp at hm; exact hm.1
    have hn : t ∉ tasks m := by rw [h.may t ht] at hm; simpa using hm
    exact give_ok h ht hn ho.2
  · exact h.mono (by omega)

/-! ## Those who wait are let in -/
theorem letQ_q (q : List Wt) : ∀ (m : La) (x : List Wt), letQ q { m with q := x } = letQ q m := by
  induction q with
  | nil => intro m x; rfl
  | cons w q ih =>
    intro m x
    have e : giveL { m with q := x } w.1 w.2 = { giveL m w.1 w.2 with q := x } := by unfold giveL; split <;> rfl
    have o : openB { m with q := x } w.2 = openB m w.2 := rfl
    simp only [letQ, o, e, ih]
theorem tasks_cons (m : La) (w : Wt) (q : List Wt) : (tasks { m with q := w :: q }).Perm (w.1 :: tasks { m with q := q }) := by
  simp only [tasks, List.map_cons]
  rw [← List.append_assoc, ← List.append_assoc]
  exact List.perm_middle
theorem perm_ok0 {m m' : La} (h : m.Ok0) (hp : (tasks m').Perm (tasks m)) (hs : m'.rd.Pairwise (· < ·)) (hw : -1 ≤ m'.wr) (hx : 0 ≤ m'.wr → m'.rd = []) : m'.Ok0 :=
  ⟨hp.nodup_iff.2 h.nd, fun x hx => h.nn x (hp.mem_iff.1 hx), hs, hw, hx⟩
/-- The first one who waits has it. -/
theorem ok_let {m : La} {w : Wt} {q : List Wt} (h : La.Ok0 { m with q := w :: q }) (ho : openB m w.2 = true) : La.Ok0 { giveL m w.1 w.2 with q := q } ∧ (tasks { giveL m w.1 w.2 with q := q }).Perm (tasks { m with q := w :: q }) := by
  have hp := tasks_cons m w q
  have hnd := List.nodup_cons.1 (hp.nodup_iff.1 h.nd)
  have ht : 0 ≤ w.1 := h.nn _ (hp.mem_iff.2 (List.mem_cons_self ..))
  have h0 : La.Ok0 { m with q := q } := ⟨hnd.2, fun x hx => h.nn x (hp.mem_iff.2 (List.mem_cons_of_mem _ hx)), h.srt, h.wr, h.ex⟩
  have e : giveL { m with q := q } w.1 w.2 = { giveL m w.1 w.2 with q := q } := by unfold giveL; split <;> rfl
  have ho' : openB { m with q := q } w.2 = true := ho
  have h1 := give_ok0 h0 ht hnd.1 ho'
  have h2 := give_tasks ht ho'
  rw [e] at h1 h2
  exact ⟨h1, h2.trans hp.symm⟩
theorem letQ_pins (q : List Wt) : ∀ m : La, (letQ q m).2.pins = m.pins := by
  induction q with
  | nil => intro m; rfl
  | cons w q ih => intro m; simp only [letQ]; split <;> simp [ih, give_pins]
theorem letQ_ok (q : List Wt) : ∀ m : La, La.Ok0 { m with q := q } → (letQ q m).2.Ok0 ∧ (tasks (letQ q m).2).Perm (tasks { m with q := q }) := by
  induction q with
  | nil => intro m h; exact ⟨h, .refl _⟩
  | cons w q ih =>
    intro m h
    simp only [letQ]
    split
    · rename_i ho
      obtain ⟨h1, h2⟩ := ok_let h ho
      obtain ⟨h3, h4⟩ := ih (giveL m w.1 w.2) h1
      exact ⟨h3, h4.trans h2⟩
    · exact ⟨h, .refl _⟩
/-- Who is first in the row can't have it. -/
def Stable (m : La) : Prop := ∀ w q, m.q = w :: q → openB m w.2 = false
theorem letQ_stable (q : List Wt) : ∀ m : La, Stable (letQ q m).2 := by
  induction q with
  | nil => intro m w q h; cases h
  | cons w q ih =>
    intro m
    simp only [letQ]
    split
    · exact ih _
    · rename_i ho
      intro w' q' h
      cases h
      have : openB m w.2 = false := by simpa using ho
      exact this
theorem letQ_split (q : List Wt) : ∀ m : La, q.map Prod.fst = (letQ q m).1 ++ (letQ q m).2.q.map Prod.fst := by
  induction q with
  | nil => intro m; rfl
  | cons w q ih =>
    intro m
    simp only [letQ]
    split
    · simp only [List.map_cons, List.cons_append]; rw [← ih]
    · rfl
theorem let_ok {m : La} {n : Nat} (h : m.Ok n) : (letL m).2.Ok n := by
  obtain ⟨h1, h2⟩ := letQ_ok m.q m h.toOk0
  exact ⟨h1, by unfold letL; rw [h2.length_eq]; exact h.len, by unfold letL; rw [letQ_pins]; exact h.pn⟩
theorem leave_tasks {m : La} (h : m.Ok0) {t : Int} (ht : 0 ≤ t) : tasks (leaveL m t) = (tasks m).filter (fun x => decide (x ≠ t)) := by
  have := h.wr
  have hm : ∀ q : List Wt, (q.filter (fun x => decide (x.1 ≠ t))).map Prod.fst = (q.map Prod.fst).filter (fun x => decide (x ≠ t)) := fun q => by
    rw [List.filter_map]; rfl
  have e1 : (if 0 ≤ (leaveL m t).wr then [(leaveL m t).wr] else []) = (if 0 ≤ m.wr then [m.wr] else []).filter (fun x => decide (x ≠ t)) := by
    by_cases hw : m.wr = t
    · have : (leaveL m t).wr = -1 := by simp [leaveL, hw]
      rw [this]; subst hw; simp [ht]
    · have : (leaveL m t).wr = m.wr := by simp [leaveL, hw]
      rw [this]
      by_cases h0 : 0 ≤ m.wr
      · simp [h0, hw]
      · simp [h0]
  show (if 0 ≤ (leaveL m t).wr then [(leaveL m t).wr] else []) ++ _ = _
  rw [e1]
  simp only [tasks, leaveL, List.filter_append, hm]
theorem leave_ok {m : La} {n : Nat} (h : m.Ok n) {t : Int} (ht : 0 ≤ t) : (leaveL m t).Ok n := by
  have hp := leave_tasks h.toOk0 ht
  have hs : (tasks (leaveL m t)).Sublist (tasks m) := hp ▸ List.filter_sublist
  refine ⟨⟨h.nd.sublist hs, fun x hx => h.nn x (hs.subset hx), h.srt.sublist List.filter_sublist, ?_, ?_⟩, Nat.le_trans hs.length_le h.len, h.pn⟩
  · have := h.wr; show -1 ≤ (if m.wr = t then -1 else m.wr); split <;> omega
  · intro hw
    have hw' : 0 ≤ m.wr := by
      have : 0 ≤ (if m.wr = t then -1 else m.wr) := hw
      split at this <;> omega
    show m.rd.filter _ = []
    rw [h.ex hw']; rfl
theorem drop_ok {m : La} {n : Nat} (h : m.Ok n) (t : Int) : (dropL m t).2.Ok n := by
  unfold dropL
  split
  · exact h
  · exact let_ok (leave_ok h (by omega))
/-- One that wrote reads. -/
theorem down_tasks {m : La} {n : Nat} (h : m.Ok n) {t : Int} (ht : 0 ≤ t) (hw : m.wr = t) : (giveL { m with wr := -1 } t false).Ok n ∧ (tasks (giveL { m with wr := -1 } t false)).Perm (tasks m) := by
  have e := h.ex (by omega)
  have hp : (tasks (giveL { m with wr := -1 } t false)).Perm (tasks m) := by
    simp only [tasks, giveL, e, hw, ht]
    simp [ins]
  refine ⟨⟨perm_ok0 h.toOk0 hp ?_ (by simp [giveL]) (by intro hc; simp [giveL] at hc), by rw [hp.length_eq]; exact h.len, h.pn⟩, hp⟩
  simp [giveL, e, ins]
theorem down_ok {m : La} {n : Nat} (h : m.Ok n) (t : Int) : (downL m t).2.Ok n := by
  unfold downL
  split
  · exact h
  · rename_i hc
    have h0 : 0 ≤ t ∧ m.wr = t := by
      refine ⟨by omega, ?_⟩
      by_cases e : m.wr = t
      · exact e
      · exact absurd (.inr e) hc
    exact let_ok (down_tasks h h0.1 h0.2).1
theorem let_stop {m : La} (h : m.q = [] ∨ ∃ w q, m.q = w :: q ∧ openB m w.2 = false) : letL m = ([], m) := by
  obtain ⟨p, r, x, q⟩ := m
  rcases h with h | ⟨w, q', h, ho⟩
  · have h' : q = [] := h
    subst h'; rfl
  · have h' : q = w :: q' := h
    subst h'
    simp only [letL, letQ, ho]
    rfl
theorem give_with (m : La) (t : Int) (w : Bool) (q : List Wt) : giveL { m with q := q } t w = { giveL m t w with q := q } := by unfold giveL; split <;> rfl
theorem let_go {m : La} {w : Wt} {q : List Wt} (h : m.q = w :: q) (ho : openB m w.2 = true) : letL m = (w.1 :: (letL (giveL { m with q := q } w.1 w.2)).1, (letL (giveL { m with q := q } w.1 w.2)).2) := by
  rw [give_with]
  have e := letQ_q q (giveL m w.1 w.2) q
  simp only [letL, h, letQ, ho, if_true]
  rw [e]
theorem ok_go {m : La} {n : Nat} {w : Wt} {q : List Wt} (h : m.Ok n) (hq : m.q = w :: q) (ho : openB m w.2 = true) : (giveL { m with q := q } w.1 w.2).Ok n := by
  have e : { m with q := w :: q } = m := by rw [← hq]
  have h0 : La.Ok0 { m with q := w :: q } := by rw [e]; exact h.toOk0
  obtain ⟨h1, h2⟩ := ok_let h0 ho
  rw [give_with]
  refine ⟨h1, by rw [h2.length_eq, e]; exact h.len, ?_⟩
  show 0 ≤ (giveL m w.1 w.2).pins ∧ (giveL m w.1 w.2).pins ≤ n
  rw [give_pins]; exact h.pn
theorem filter_at {α : Type} {f : α → Int} {t : Int} : ∀ {l : List α} {k : Nat} {y : α}, (l.map f).Nodup → l[k]? = some y → f y = t → l.filter (fun x => decide (f x ≠ t)) = l.eraseIdx k
  | [], k, y, hn, hk, hy => by simp at hk
  | x :: l, 0, y, hn, hk, hy => by
    simp at hk; subst hk
    have hx := (List.nodup_cons.1 hn).1
    rw [List.filter_cons_of_neg (by simp [hy])]
    simp only [List.eraseIdx_zero, List.tail_cons]
    exact List.filter_eq_self.2 (fun z hz => by simp; rintro rfl; exact hx (hy ▸ List.mem_map_of_mem hz))
  | x :: l, k + 1, y, hn, hk, hy => by
    have hk' : l[k]? = some y := by simpa using hk
    have hx := List.nodup_cons.1 hn
    have hne : f x ≠ t := fun e => hx.1 (by rw [e, ← hy]; exact List.mem_map_of_mem (List.mem_of_getElem? hk'))
    rw [List.filter_cons_of_pos (by simpa using hne), List.eraseIdx_cons_succ, filter_at hx.2 hk' hy]
theorem filter_no {α : Type} {f : α → Int} {t : Int} {l : List α} (h : t ∉ l.map f) : l.filter (fun x => decide (f x ≠ t)) = l :=
  List.filter_eq_self.2 (fun z hz => by simp; rintro rfl; exact h (List.mem_map_of_mem hz))

end Go.Proofs.Ytlakembncfkimaa
