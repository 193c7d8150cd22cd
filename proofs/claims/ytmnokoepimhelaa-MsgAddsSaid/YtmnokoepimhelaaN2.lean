/- messages: many Adds -/
import Derived.Test.YtmnokoepimhelaaN
set_option linter.unusedVariables false
set_option linter.unusedSimpArgs false
namespace Go.Proofs.Ytmnokoepimhelaa
open Go.Sep Go.RowKit

theorem build024 (k : Int) (key : Kv 8) (y : Int) (wk : (Lit.int .i64 k).wf = true) (wy : (Lit.int .u64 y).wf = true) (w : World) : (Instr.build 30 #[(0, .int .i64 k), (2, .agg key.c.toArray), (4, .int .u64 y)]).run Try.prog w = .ok (.agg (mk4 k 0 key y wk (by decide) wy).c.toArray) w := by
  obtain ⟨a, b, c, d, e, f, g, h, hb⟩ := kv8_list key
  unfold Ms.c mk4 Kv.c
  rw [hb]
  kernel_rfl
theorem wf_seq {i : Nat} (h : i ≤ 100) : (Lit.int .u64 (i : Int)).wf = true := by
  simp only [Lit.wf, Bool.and_eq_true, decide_eq_true_eq]
  exact ⟨by show (0 : Int) ≤ _; omega, by show _ ≤ (2 ^ 64 - 1 : Int); omega⟩
/-- One Add of all so far. -/
def addM (k : Kv 8) (i : Nat) (h : i ≤ 100) (z : Int) (wz : (Lit.int .u64 z).wf = true) : Ms := mk4 3 i k z (by decide) (wf_seq h) wz
theorem add_co (k : Kv 8) {i j : Nat} (hi : i ≤ 100) (hj : j ≤ 100) {y z : Int} (wy : (Lit.int .u64 y).wf = true) (wz : (Lit.int .u64 z).wf = true) : mco (addM k i hi y wy) (addM k j hj z wz) = addM k j hj (IntKind.u64.wrap (y + z)) (wf_wrap _) := by
  rw [co_add (a := addM k i hi y wy) (b := addM k j hj z wz) rfl rfl rfl]
  refine Ms.ext' rfl rfl rfl rfl ?_
  show IntKind.u64.wrap (z + y) = IntKind.u64.wrap (y + z)
  rw [Int.add_comm]
theorem add_ap (k : Kv 8) {i : Nat} (hi : i ≤ 100) {y : Int} (wy : (Lit.int .u64 y).wf = true) : map' (kv0 16) false (addM k i hi y wy) = (vfrom y, true) := by
  unfold map'; simp [addM, mk4]; exact plus0 wy
theorem get64 {l : List Int} (hl : ∀ z ∈ l, (Lit.int .u64 z).wf = true) {i : Nat} (h : i < l.length) : ∃ z, l[i]? = some z ∧ (Lit.int .u64 z).wf = true := ⟨l[i], List.getElem?_eq_getElem h, hl _ (List.getElem_mem h)⟩

end Go.Proofs.Ytmnokoepimhelaa
