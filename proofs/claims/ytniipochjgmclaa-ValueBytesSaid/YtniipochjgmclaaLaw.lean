
/- Laws for variables that lie in memory (flat structs): the world behind is a letter, with what is known of it. Over any program. -/
import Derived.Test.YtniipochjgmclaaFlat
import Derived.Test.YtniipochjgmclaaApp
namespace Go.Proofs.Ytniipochjgmclaa
open Go.RowKit

section
variable {P : Program} {w : World} {ops : Array Oper} {rest : List Oper} {o : Oper} {a : Act} {Q : Exit → Act → World → Prop}

/-- A new variable: 'Op.alloc'. -/
theorem wpl_alloc {t : TypeId} {zs : Array Value} (hrun : ∀ w, (Instr.alloc t true (.tuple #[])).run P w = .ok (.pointer (some ⟨w.heap.size, 0, none⟩)) (w.alloc (.cells zs t))) (hgd : o.guard = none) (ho : o.op = .alloc t)
    (h : ∀ W, W.heap[w.heap.size]? = some (.cells zs t (0, 0)) → Below w.heap.size w W → W.heap.size = w.heap.size + 1 → wpList P ops Q rest (a.put o.dst (.pointer (some ⟨w.heap.size, 0, none⟩))) W) : wpList P ops Q (o :: rest) a w := by
  refine wpList_plain hgd fun K hK => ?_
  unfold Oper.wp execOp
  simp only [ho, Sem.run_bind, hrun, Result.andThen_ok, Sem.run_pure]
  exact hK _ _ (h _ (heap_alloc_new w _) ((Below.refl _ _).alloc (Nat.le_refl _) _) (by simp))

/-- A flat struct's copy in a new variable: 'Op.box'. -/
theorem wpl_box {t : TypeId} (x : Operand) (cs : Array Value) (hx : a.eval x = .agg cs) (hgd : o.guard = none) (ho : o.op = .box t x)
    (h : ∀ W, W.heap[w.heap.size]? = some (.cells cs t (0, 0)) → Below w.heap.size w W → W.heap.size = w.heap.size + 1 → wpList P ops Q rest (a.put o.dst (.pointer (some ⟨w.heap.size, 0, none⟩))) W) : wpList P ops Q (o :: rest) a w := by
  refine wpList_plain hgd fun K hK => ?_
  have hrun : (Instr.box t (.agg cs)).run P w = .ok (.pointer (some ⟨w.heap.size, 0, none⟩)) (w.alloc (.cells cs t)) := rfl
  unfold Oper.wp execOp
  simp only [ho, hx, Sem.run_bind, hrun, Result.andThen_ok, Sem.run_pure]
  exact hK _ _ (h _ (heap_alloc_new w _) ((Below.refl _ _).alloc (Nat.le_refl _) _) (by simp))

/-- A flat struct is stored into its variable. -/
theorem wpl_store (ty : TypeId) (x y : Operand) (hgd : o.guard = none) (ho : o.op = .store ty x y)
    (g : Nat) (cells : Array Value) (hx : a.eval x = .pointer (some ⟨g, 0, none⟩)) (hy : a.eval y = .agg cells)
    (t : TypeId) (old : Array Value) (hg : w.heap[g]? = some (.cells old t (0, 0))) (hi : (P.info? ty).map (·.size) = some cells.size)
    (hold : old.size = cells.size) (h1 : ∀ u ∈ cells.toList, u.oneCell' = true)
    (h : ∀ W, W.heap[g]? = some (.cells cells t (0, 0)) → w.grownBy W (some g) → W.heap.size = w.heap.size → wpList P ops Q rest (a.put o.dst undef) W) : wpList P ops Q (o :: rest) a w := by
  refine wpList_store_row hgd ty x y ho g cells hx hy t old hg hi hold (by rw [Array.all_eq_true_iff_forall_mem]; exact fun v hv => h1 v (by simpa using hv)) (h _ (setRow_heap w g old cells t _ hg) ⟨rfl, rfl, rfl, by simp, fun k _ hk => setRow_other w g k cells (fun e => hk (by rw [e]))⟩ (by simp))
end

theorem Below.of_grown {w W : World} {g B : Nat} {a : World} (h : Below B a w) (hg : w.grownBy W (some g)) (hB : B ≤ w.heap.size) (hr : B ≤ g) : Below B a W := h.grown hg hB (fun k hk => by simp at hk; omega)
/-- What a block holds is kept by what writes elsewhere. -/
theorem row_grown {w W : World} {g k : Nat} {ob : Obj} (h : w.heap[k]? = some ob) (hg : w.grownBy W (some g)) (hk : k ≠ g) : W.heap[k]? = some ob := by
  have hlt : k < w.heap.size := by
    rcases Nat.lt_or_ge k w.heap.size with h' | h'
    · exact h'
    · rw [Array.getElem?_eq_none h'] at h; cases h
  rw [hg.block k hlt (fun e => hk (by simpa using e))]; exact h
theorem row_below {w W : World} {B k : Nat} {ob : Obj} (h : w.heap[k]? = some ob) (hb : Below B w W) (hk : k < B) : W.heap[k]? = some ob := (hb.block k hk).trans h
theorem row_lt {w : World} {k : Nat} {ob : Obj} (h : w.heap[k]? = some ob) : k < w.heap.size := by
  rcases Nat.lt_or_ge k w.heap.size with h' | h'
  · exact h'
  · rw [Array.getElem?_eq_none h'] at h; cases h
end Go.Proofs.Ytniipochjgmclaa
