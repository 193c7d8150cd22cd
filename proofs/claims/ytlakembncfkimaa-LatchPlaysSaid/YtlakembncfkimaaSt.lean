/- latch: steps -/
import Derived.Test.YtlakembncfkimaaF
import Derived.Test.YtlakembncfkimaaS9
set_option linter.unusedVariables false
set_option linter.unusedSimpArgs false
namespace Go.Proofs.Ytlakembncfkimaa
open Go.Sep Go.RowKit

/-- A step. -/
structure Stp where
  what : Int
  t : Int
  wr : Bool
def encSt : Enc Stp := ⟨3, fun s => [.int .i64 s.what, .int .i64 s.t, .bool s.wr], fun _ => rfl, fun a u h => by simp at h; rcases h with rfl | rfl | rfl <;> rfl, by decide⟩
def kinds_0 : List Sc := [Sc.i .i64, Sc.i .i64, Sc.b]
theorem stp_one (cs : List Value) (h : Kinds kinds_0 cs) : ∃ a : Stp, cs = encSt.f a ∧ ((Lit.int .i64 a.what).wf = true ∧ (Lit.int .i64 a.t).wf = true) := by
  obtain ⟨hl, hk⟩ := h
  match cs, hl with
  | [u, v, x], _ =>
    obtain ⟨p, rfl, hp⟩ := hk 0 _ u rfl rfl
    obtain ⟨q, rfl, hq⟩ := hk 1 _ v rfl rfl
    obtain ⟨r, rfl⟩ := hk 2 _ x rfl rfl
    exact ⟨⟨p, q, r⟩, rfl, hp, hq⟩
theorem take_q2 (m : La) (t : Int) (w : Bool) : ((takeL m t w).q = m.q ++ [(t, w)] ∧ m.q.length < (takeL m t w).q.length) ∨ ((takeL m t w).q = m.q ∧ ¬ m.q.length < (takeL m t w).q.length) := by
  unfold takeL
  split
  · split
    · right; rw [give_q]; exact ⟨rfl, by omega⟩
    · left; simp [queueL]
  · right; exact ⟨rfl, by omega⟩
theorem drop_q {m : La} {t : Int} (ht : 0 ≤ t) (hn : t ∉ m.q.map Prod.fst) : m.q.map Prod.fst = (dropL m t).1 ++ (dropL m t).2.q.map Prod.fst := by
  unfold dropL
  rw [if_neg (by omega)]
  have e : (leaveL m t).q = m.q := filter_no hn
  have := letQ_split (leaveL m t).q (leaveL m t)
  rw [e] at this
  rw [this]
  unfold letL
  rw [e]

end Go.Proofs.Ytlakembncfkimaa
