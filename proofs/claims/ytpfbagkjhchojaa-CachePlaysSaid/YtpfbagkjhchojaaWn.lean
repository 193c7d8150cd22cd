/- claimed, named, given back: plain -/
import Derived.Test.YtpfbagkjhchojaaAw
set_option linter.unusedVariables false
set_option linter.unusedSimpArgs false
namespace Go.Proofs.Ytpfbagkjhchojaa
open Go.Sep Go.RowKit

/-! ## Claimed, named, given back -/
def clm : Nat → Mo
  | 0 => mo0 6
  | i + 1 => ((clm i).claim 3).2
theorem six {Q : Nat → Prop} {k : Nat} (h1 : 1 ≤ k) (h6 : k ≤ 6) (q1 : Q 1) (q2 : Q 2) (q3 : Q 3) (q4 : Q 4) (q5 : Q 5) (q6 : Q 6) : Q k := by
  rcases show k = 1 ∨ k = 2 ∨ k = 3 ∨ k = 4 ∨ k = 5 ∨ k = 6 by omega with rfl | rfl | rfl | rfl | rfl | rfl <;> assumption
theorem six0 {Q : Nat → Prop} {k : Nat} (h6 : k < 6) (q0 : Q 0) (q1 : Q 1) (q2 : Q 2) (q3 : Q 3) (q4 : Q 4) (q5 : Q 5) : Q k := by
  rcases show k = 0 ∨ k = 1 ∨ k = 2 ∨ k = 3 ∨ k = 4 ∨ k = 5 by omega with rfl | rfl | rfl | rfl | rfl | rfl <;> assumption
theorem clm_yes {i : Nat} (h : i < 6) : ((clm i).claim 3).1 = true := six0 (Q := fun i => ((clm i).claim 3).1 = true) h (by decide +kernel) (by decide +kernel) (by decide +kernel) (by decide +kernel) (by decide +kernel) (by decide +kernel)
theorem clm_free {k : Nat} (h1 : 1 ≤ k) (h6 : k ≤ 6) : ((clm k).free : Int) = 6 - (k : Int) := six (Q := fun k => ((clm k).free : Int) = 6 - (k : Int)) h1 h6 (by decide +kernel) (by decide +kernel) (by decide +kernel) (by decide +kernel) (by decide +kernel) (by decide +kernel)
theorem clm_name2 {k : Nat} (h1 : 1 ≤ k) (h6 : k ≤ 6) (b : Int) (lf : Bool) (es : List En) : (clm k).name 2 b lf es = (false, clm k) := name_no2 lf es (six (Q := fun k => fst1 (isC 2) (clm k).fr = none) h1 h6 (by decide +kernel) (by decide +kernel) (by decide +kernel) (by decide +kernel) (by decide +kernel) (by decide +kernel))
theorem clm_claims {k : Nat} (h1 : 1 ≤ k) (h6 : k ≤ 6) : ((clm k).claims 3 : Int) = (k : Int) := six (Q := fun k => ((clm k).claims 3 : Int) = (k : Int)) h1 h6 (by decide +kernel) (by decide +kernel) (by decide +kernel) (by decide +kernel) (by decide +kernel) (by decide +kernel)
theorem clm_give {k : Nat} (h1 : 1 ≤ k) (h6 : k ≤ 6) : (clm k).give 3 = mo0 6 := six (Q := fun k => (clm k).give 3 = mo0 6) h1 h6 (by kernel_rfl) (by kernel_rfl) (by kernel_rfl) (by kernel_rfl) (by kernel_rfl) (by kernel_rfl)
theorem zero_free : ((mo0 6).free : Int) = 6 := by decide +kernel
theorem zero_claims : ((mo0 6).claims 3 : Int) = 0 := by decide +kernel
theorem zero_give : (mo0 6).give 3 = mo0 6 := by kernel_rfl
theorem zero_name (b : Int) (lf : Bool) (es : List En) : (mo0 6).name 3 b lf es = (false, mo0 6) := name_no2 lf es (by decide +kernel)
def nmV (a : Int) (lf : Bool) (es : List En) : Vw := ⟨2, a, 0, 0, true, true, lf, es⟩
def nm (k : Nat) (a : Int) (lf : Bool) (es : List En) : Mo := (clm k).put 0 (nmV a lf es)
theorem clm_find {k : Nat} (h1 : 1 ≤ k) (h6 : k ≤ 6) (a : Int) : (clm k).find a = none := fst1_none (fun z hz => by
  have hz : (decide (z.st = 1) || decide (z.st = 2)) = false := six (Q := fun k => ∀ z ∈ (clm k).fr.map Vw.st, (decide (z = 1) || decide (z = 2)) = false) h1 h6 (by decide +kernel) (by decide +kernel) (by decide +kernel) (by decide +kernel) (by decide +kernel) (by decide +kernel) z.st (List.mem_map.2 ⟨z, hz, rfl⟩)
  unfold isB; rw [hz, Bool.and_false])
theorem clm_name {k : Nat} (h1 : 1 ≤ k) (h6 : k ≤ 6) {a : Int} (ha : 0 ≤ a ∧ a < 255) (lf : Bool) (es : List En) : (clm k).name 3 a lf es = (true, nm k a lf es) :=
  name_yes (k := 0) lf es (by rw [clm_find h1 h6]; unfold bkB; rw [decide_eq_true ha.1, decide_eq_true (show a < 256 by omega)]; rfl) (six (Q := fun k => fst1 (isC 3) (clm k).fr = some 0) h1 h6 (by decide +kernel) (by decide +kernel) (by decide +kernel) (by decide +kernel) (by decide +kernel) (by decide +kernel))
theorem nm_fr {k : Nat} (h1 : 1 ≤ k) (h6 : k ≤ 6) (a : Int) (lf : Bool) (es : List En) : (nm k a lf es).fr.length = 6 ∧ (nm k a lf es).fr[0]? = some (nmV a lf es) := six (Q := fun k => (nm k a lf es).fr.length = 6 ∧ (nm k a lf es).fr[0]? = some (nmV a lf es)) h1 h6 (by constructor <;> kernel_rfl) (by constructor <;> kernel_rfl) (by constructor <;> kernel_rfl) (by constructor <;> kernel_rfl) (by constructor <;> kernel_rfl) (by constructor <;> kernel_rfl)
theorem nm_again {k : Nat} (h1 : 1 ≤ k) (h6 : k ≤ 6) (a : Int) (lf lf' : Bool) (es es' : List En) : (nm k a lf es).name 3 a lf' es' = (false, nm k a lf es) := name_no1 lf' es' (by
  have : (nm k a lf es).find a = some 0 := fst1_some (nm_fr h1 h6 a lf es).2 (by unfold isB nmV; simp) (fun z hz => by simp at hz)
  rw [this, Bool.and_comm]; rfl)
theorem nm_ev {k : Nat} (h1 : 1 ≤ k) (h6 : k ≤ 6) (a : Int) (lf : Bool) (es : List En) : (nm k a lf es).evict.1 = some (nmV a lf es) := six (Q := fun k => (nm k a lf es).evict.1 = some (nmV a lf es)) h1 h6 (by kernel_rfl) (by kernel_rfl) (by kernel_rfl) (by kernel_rfl) (by kernel_rfl) (by kernel_rfl)
theorem nm_cl {k : Nat} (h1 : 1 ≤ k) (h6 : k ≤ 6) (a : Int) (lf : Bool) (es : List En) : ((nm k a lf es).evict.2.claims 3 : Int) = (k : Int) - 1 := six (Q := fun k => ((nm k a lf es).evict.2.claims 3 : Int) = (k : Int) - 1) h1 h6 (by kernel_rfl) (by kernel_rfl) (by kernel_rfl) (by kernel_rfl) (by kernel_rfl) (by kernel_rfl)
theorem Q.rd {w0 w : World} {D : List Nat} {H : List Ent} {bc : Nat} {q : Q} {nv : NV} (h : St w0 D H w) (hi : (nv.e = sv0 ∧ nv.l = []) ∨ nrow nv ∈ q.G) (hs : ∀ e ∈ Q.H bc q, e ∈ H) : RdV w nv.e.v En.enc nv.l := by
  rcases hi with ⟨h1, h2⟩ | h1
  · rw [h1, h2]; exact rd_nil _
  · exact rowE_rd (h.hp.holds _ (hs _ (List.mem_append_right _ h1)))
theorem fr_at {l : List FC} {fr : List Vw} (h : l.map vw = fr) {i : Nat} {y : Vw} (hy : fr[i]? = some y) : ∃ f, l[i]? = some f ∧ vw f = y := by
  subst h; rw [List.getElem?_map, Option.map_eq_some_iff] at hy; exact hy

end Go.Proofs.Ytpfbagkjhchojaa
