/- latch: alone -/
import Derived.Test.YtlakembncfkimaaF
set_option linter.unusedVariables false
set_option linter.unusedSimpArgs false
namespace Go.Proofs.Ytlakembncfkimaa
open Go.Sep Go.RowKit

/-- What holds behind each step. -/
structure Al (m : La) : Prop where
  lt : ∀ x ∈ tasks m, x < 6
  st : Stable m
theorem al_new : Al newL := ⟨by decide, fun w q h => by cases h⟩
theorem al_take {m : La} {n : Nat} (h : Al m) (ho : m.Ok n) {t : Int} (ht : t < 6) (w : Bool) : Al (takeL m t w) := by
  unfold takeL
  split
  · rename_i hm
    have h0 : 0 ≤ t := by unfold mayB at hm; simp at hm; exact hm.1
    split
    · rename_i hb
      unfold tryB at hb
      simp only [Bool.and_eq_true, decide_eq_true_eq] at hb
      refine ⟨fun x hx => ?_, fun w' q' hq => ?_⟩
      · rcases List.mem_cons.1 ((give_tasks h0 hb.2).mem_iff.1 hx) with rfl | hx
        · exact ht
        · exact h.lt x hx
      · rw [give_q] at hq
        rw [hq] at hb; simp at hb
    · rename_i hb
      refine ⟨fun x hx => ?_, fun w' q' hq => ?_⟩
      · rcases List.mem_cons.1 ((queue_tasks m t w).mem_iff.1 hx) with rfl | hx
        · exact ht
        · exact h.lt x hx
      · have hq' : m.q ++ [(t, w)] = w' :: q' := hq
        show openB m w'.2 = false
        cases hmq : m.q with
        | nil =>
          rw [hmq] at hq'
          cases hq'
          unfold tryB at hb
          rw [hm, hmq] at hb
          simpa using hb
        | cons a l =>
          rw [hmq] at hq'
          cases hq'
          exact h.st _ _ hmq
  · exact h
theorem al_drop {m : La} {n : Nat} (h : Al m) (ho : m.Ok n) {t : Int} (ht : 0 ≤ t) : Al (dropL m t).2 := by
  unfold dropL
  rw [if_neg (by omega)]
  have hl := letQ_ok (leaveL m t).q (leaveL m t) (leave_ok ho ht).toOk0
  refine ⟨fun x hx => ?_, letQ_stable _ _⟩
  have hx' : x ∈ tasks (leaveL m t) := hl.2.mem_iff.1 hx
  rw [leave_tasks ho.toOk0 ht] at hx'
  exact h.lt x (List.mem_filter.1 hx').1
theorem al_down {m : La} {n : Nat} (h : Al m) (ho : m.Ok n) (t : Int) : Al (downL m t).2 := by
  unfold downL
  split
  · exact h
  · rename_i hc
    have h0 : 0 ≤ t ∧ m.wr = t := by
      refine ⟨by omega, ?_⟩
      by_cases e : m.wr = t
      · exact e
      · exact absurd (.inr e) hc
    obtain ⟨k1, k2⟩ := down_tasks ho h0.1 h0.2
    have hl := letQ_ok (giveL { m with wr := -1 } t false).q (giveL { m with wr := -1 } t false) k1.toOk0
    exact ⟨fun x hx => h.lt x (k2.mem_iff.1 (hl.2.mem_iff.1 hx)), letQ_stable _ _⟩
theorem Al.busy {m : La} {n : Nat} (h : Al m) (ho : m.Ok n) (hq : 0 < m.q.length) (hw : m.wr < 0) : m.rd.length ≠ 0 := by
  intro hr
  cases hmq : m.q with
  | nil => rw [hmq] at hq; simp at hq
  | cons w q =>
    have h1 := h.st w q hmq
    have h2 := ho.wr
    have : openB m w.2 = true := by
      unfold openB
      rw [decide_eq_true (show m.wr = -1 by omega), decide_eq_true hr]; simp
    rw [this] at h1; cases h1
theorem Al.wr {m : La} (h : Al m) : m.wr < 6 := by
  by_cases h0 : 0 ≤ m.wr
  · exact h.lt _ (by simp [tasks, h0])
  · omega
theorem La.Ok.rd0 {m : La} {n : Nat} (ho : m.Ok n) {x : Int} {j : Nat} (hx : m.rd[j]? = some x) : x ∈ tasks m := by
  have := List.mem_of_getElem? hx
  simp [tasks, this]
theorem La.Ok.q0 {m : La} {n : Nat} (ho : m.Ok n) {y : Wt} {j : Nat} (hx : m.q[j]? = some y) : y.1 ∈ tasks m := by
  have := List.mem_map_of_mem (f := Prod.fst) (List.mem_of_getElem? hx)
  simp only [tasks, List.mem_append]
  exact .inr (.inr this)
theorem srt_lt {l : List Int} (hs : l.Pairwise (· < ·)) {j : Nat} {a b : Int} (h0 : 0 < j) (h1 : l[j - 1]? = some a) (h2 : l[j]? = some b) : a < b := by
  obtain ⟨k1, e1⟩ := List.getElem?_eq_some_iff.1 h1
  obtain ⟨k2, e2⟩ := List.getElem?_eq_some_iff.1 h2
  have := List.pairwise_iff_getElem.1 hs (j - 1) j k1 k2 (by omega)
  rw [e1, e2] at this; exact this
/-- How often each is met. -/
def cnt (L : List Int) : List Int := (List.range 6).map (fun x : Nat => (L.count (x : Int) : Int))
abbrev met (L : List Int) : List Value := (cnt L).map (Value.int .i64)
theorem met_len (L : List Int) : (met L).length = 6 := by simp [met, cnt]
theorem met_get (L : List Int) {k : Nat} (hk : k < 6) : (met L)[0 + k * 1]? = some (.int .i64 (L.count (k : Int) : Int)) := by
  rw [show 0 + k * 1 = k from by omega]
  simp [met, cnt, hk]
theorem met_set (L : List Int) {k : Nat} (hk : k < 6) : (met L).set (0 + k * 1) (.int .i64 ((L.count (k : Int) : Int) + 1)) = met (L ++ [(k : Int)]) := by
  rw [show 0 + k * 1 = k from by omega]
  refine List.ext_getElem? (fun j => ?_)
  by_cases hj : j < 6
  · have e := met_get (L ++ [(k : Int)]) hj
    have e0 := met_get L hj
    rw [show 0 + j * 1 = j from by omega] at e e0
    rw [e, List.getElem?_set]
    by_cases hjk : k = j
    · subst hjk
      rw [if_pos rfl, if_pos (by rw [met_len]; exact hk)]
      simp
    · rw [if_neg hjk, e0]
      have : ¬ (j : Int) = (k : Int) := by omega
      rw [List.count_append, List.count_singleton]
      have h2 : ((k : Int) == (j : Int)) = false := by simp; omega
      rw [h2]; simp
  · rw [List.getElem?_eq_none (by rw [List.length_set, met_len]; omega), List.getElem?_eq_none (by rw [met_len]; omega)]
abbrev wrs (m : La) : List Int := if 0 ≤ m.wr then [m.wr] else []
theorem met_one {m : La} {n : Nat} (ho : m.Ok n) (x : Int) : (m.rd ++ wrs m ++ m.q.map Prod.fst).count x ≤ 1 := by
  have hp : (m.rd ++ wrs m ++ m.q.map Prod.fst).Perm (tasks m) := by
    unfold tasks
    rw [← List.append_assoc]
    exact List.perm_append_comm.append_right _
  exact List.nodup_iff_count.1 (hp.nodup_iff.2 ho.nd) x

end Go.Proofs.Ytlakembncfkimaa
