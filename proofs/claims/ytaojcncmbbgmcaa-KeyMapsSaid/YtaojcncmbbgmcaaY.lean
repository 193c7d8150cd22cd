/- keys out of texts -/
import Derived.Test.YtaojcncmbbgmcaaX
set_option linter.unusedVariables false
set_option linter.unusedSimpArgs false
namespace Go.Proofs.Ytaojcncmbbgmcaa
open Go.Sep Go.RowKit

/-! ## The keys that texts give -/
def kks (l : List ByteArray) : List (Kv 8) := l.filterMap (fun s => if (ofM s).2 = 0 then some (ofM s).1 else none)
theorem kks_yes {l : List ByteArray} {i : Nat} {s : ByteArray} (h : l[i]? = some s) (h0 : (ofM s).2 = 0) : kks (l.take (i + 1)) = kks (l.take i) ++ [(ofM s).1] := by
  unfold kks; rw [List.take_add_one, h, List.filterMap_append]; simp [h0]
theorem kks_no {l : List ByteArray} {i : Nat} {s : ByteArray} (h : l[i]? = some s) (h0 : ¬ (ofM s).2 = 0) : kks (l.take (i + 1)) = kks (l.take i) := by
  unfold kks; rw [List.take_add_one, h, List.filterMap_append]; simp [h0]
theorem kks_len (l : List ByteArray) : (kks l).length ≤ l.length := List.length_filterMap_le ..
theorem ofM_ck {s : ByteArray} (h0 : (ofM s).2 = 0) : kck (ofM s).1 = true := by
  unfold ofM at h0 ⊢
  split at h0
  · rename_i h; rw [dif_pos h]; exact kof_ck s h
  · cases h0
theorem kks_ck {l : List ByteArray} {x : Kv 8} (h : x ∈ kks l) : kck x = true := by
  unfold kks at h
  obtain ⟨s, _, e⟩ := List.mem_filterMap.1 h
  split at e
  · rename_i h0; cases e; exact ofM_ck h0
  · cases e
theorem rise_at {l : List (Kv 8)} (h : Rise l) {j : Nat} {x y : Kv 8} (hx : l[j]? = some x) (hy : l[j + 1]? = some y) : kcmp x y < 0 := by
  obtain ⟨h1, e1⟩ := List.getElem?_eq_some_iff.1 hx
  obtain ⟨h2, e2⟩ := List.getElem?_eq_some_iff.1 hy
  have := List.pairwise_iff_getElem.1 h j (j + 1) h1 h2 (by omega)
  rw [e1, e2] at this; exact this

end Go.Proofs.Ytaojcncmbbgmcaa
