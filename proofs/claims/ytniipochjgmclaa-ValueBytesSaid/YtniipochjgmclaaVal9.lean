
/- Layer 4: what the laws need of the numbers in values, and how blocks are kept beside calls. -/
import Derived.Test.YtniipochjgmclaaVal8
set_option linter.unusedVariables false
namespace Go.Proofs.Ytniipochjgmclaa
open Go.RowKit Go.ChangeShapes Go.ChangeAt Go.WideShapes

theorem from_take (n : Int) : (from_ n).take 8 = le n 8 := by
  unfold from_ pad
  rw [List.take_append_of_le_length (by rw [le_length]; exact Nat.le_refl _)]
  exact List.take_of_length_le (by rw [le_length]; exact Nat.le_refl _)
theorem num_from (n : Int) (h0 : 0 ≤ n) (h1 : n < 18446744073709551616) : num ((from_ n).take 8) = n := by
  rw [from_take, num_le 8 n h0]
  exact Int.emod_eq_of_lt h0 (by omega)
theorem wf_from (n : Int) : ∀ b ∈ from_ n, (Lit.int .u8 b).wf = true := wf_pad 16 (fun b hb => wf_u8 (le_byte 8 n b hb).1 (le_byte 8 n b hb).2)
theorem vcheck_from (n : Int) : vcheck 8 (from_ n) = true := by
  have := vcheck_nat 8 (from_ n) (by decide)
  rw [show ((8 : Nat) : Int) = 8 from rfl] at this
  rw [this, from_take]; simp [from_]

theorem u8s_of : ∀ cs : List Value, (∀ v ∈ cs, ∃ z, v = .int .u8 z ∧ (Lit.int .u8 z).wf = true) → ∃ bs : List Int, cs = bs.map (Value.int .u8) ∧ ∀ b ∈ bs, (Lit.int .u8 b).wf = true
  | [], _ => ⟨[], rfl, by simp⟩
  | v :: cs, h => by
    obtain ⟨z, rfl, hz⟩ := h v (by simp)
    obtain ⟨bs, rfl, hb⟩ := u8s_of cs (fun u hu => h u (by simp [hu]))
    exact ⟨z :: bs, rfl, by
      intro b hb'
      rcases List.mem_cons.1 hb' with rfl | h'
      · exact hz
      · exact hb b h'⟩

theorem kinds_mk (x : Array Value) (h : Kinds (Sc.i .i64 :: List.replicate 16 (Sc.i .u8)) x.toList) : ∃ (n : Int) (bs : List Int), x = val n bs ∧ (Lit.int .i64 n).wf = true ∧ bs.length = 16 ∧ ∀ b ∈ bs, (Lit.int .u8 b).wf = true := by
  obtain ⟨cs⟩ := x
  obtain ⟨hl, hk⟩ := h
  cases cs with
  | nil => simp at hl
  | cons c cs =>
    obtain ⟨n, rfl, hn⟩ := hk 0 _ _ rfl rfl
    have hl' : cs.length = 16 := by simpa using hl
    obtain ⟨bs, rfl, hbs⟩ := u8s_of cs (fun v hv => by
      obtain ⟨j, hj⟩ := List.mem_iff_getElem?.1 hv
      have hj16 : j < 16 := by
        rcases Nat.lt_or_ge j 16 with h' | h'
        · exact h'
        · rw [List.getElem?_eq_none (by omega)] at hj; cases hj
      obtain ⟨z, h1, h2⟩ := hk (j + 1) (Sc.i .u8) v (by rw [List.getElem?_cons_succ, List.getElem?_replicate, if_pos hj16]) (by simpa using hj)
      exact ⟨z, h1, h2⟩)
    exact ⟨n, bs, rfl, hn, by simpa using hl', hbs⟩

theorem keep1 {w W W0 : World} {B B0 : Nat} {ob : Obj} (hb : Below w.heap.size w W) (h : w.heap[B]? = some ob ∧ Below B0 W0 w ∧ B0 ≤ w.heap.size) : W.heap[B]? = some ob ∧ Below B0 W0 W ∧ B0 ≤ W.heap.size :=
  ⟨row_below h.1 hb (row_lt h.1), h.2.1.trans (hb.mono h.2.2), Nat.le_trans h.2.2 hb.size⟩
theorem keep2 {w W W0 : World} {B B0 B2 : Nat} {ob o2 : Obj} (hb : Below w.heap.size w W) (h : w.heap[B]? = some ob ∧ w.heap[B2]? = some o2 ∧ Below B0 W0 w ∧ B0 ≤ w.heap.size) : W.heap[B]? = some ob ∧ W.heap[B2]? = some o2 ∧ Below B0 W0 W ∧ B0 ≤ W.heap.size :=
  ⟨row_below h.1 hb (row_lt h.1), row_below h.2.1 hb (row_lt h.2.1), h.2.2.1.trans (hb.mono h.2.2.2), Nat.le_trans h.2.2.2 hb.size⟩
theorem keep3 {w W W0 : World} {B B0 B2 B3 : Nat} {ob o2 o3 : Obj} (hb : Below w.heap.size w W) (h : w.heap[B]? = some ob ∧ w.heap[B2]? = some o2 ∧ w.heap[B3]? = some o3 ∧ Below B0 W0 w ∧ B0 ≤ w.heap.size) : W.heap[B]? = some ob ∧ W.heap[B2]? = some o2 ∧ W.heap[B3]? = some o3 ∧ Below B0 W0 W ∧ B0 ≤ W.heap.size :=
  ⟨row_below h.1 hb (row_lt h.1), row_below h.2.1 hb (row_lt h.2.1), row_below h.2.2.1 hb (row_lt h.2.2.1), h.2.2.2.1.trans (hb.mono h.2.2.2.2), Nat.le_trans h.2.2.2.2 hb.size⟩
theorem keepc {w W W0 : World} {B B0 : Nat} {n : Int} {bs : List Int} {t : TypeId} (hb : Below w.heap.size w W) (h : w.heap[B]? = some (.cells (val n bs) t (0, 0)) ∧ w.cell? ⟨B, 0, none⟩ = some (.int .i64 n) ∧ Below B0 W0 w ∧ B0 ≤ w.heap.size) : W.heap[B]? = some (.cells (val n bs) t (0, 0)) ∧ W.cell? ⟨B, 0, none⟩ = some (.int .i64 n) ∧ Below B0 W0 W ∧ B0 ≤ W.heap.size :=
  ⟨row_below h.1 hb (row_lt h.1), cell_val0 (row_below h.1 hb (row_lt h.1)), h.2.2.1.trans (hb.mono h.2.2.2), Nat.le_trans h.2.2.2 hb.size⟩

theorem held1 {W W0 : World} {B B0 : Nat} {ob : Obj} (h : W.heap[B]? = some ob ∧ Below B0 W0 W ∧ B0 ≤ W.heap.size) : Below B0 W0 W := h.2.1
theorem held2 {W W0 : World} {B B2 B0 : Nat} {ob o2 : Obj} (h : W.heap[B]? = some ob ∧ W.heap[B2]? = some o2 ∧ Below B0 W0 W ∧ B0 ≤ W.heap.size) : Below B0 W0 W := h.2.2.1
theorem held3 {W W0 : World} {B B2 B3 B0 : Nat} {ob o2 o3 : Obj} (h : W.heap[B]? = some ob ∧ W.heap[B2]? = some o2 ∧ W.heap[B3]? = some o3 ∧ Below B0 W0 W ∧ B0 ≤ W.heap.size) : Below B0 W0 W := h.2.2.2.1
theorem heldc {W W0 : World} {B B0 : Nat} {ob : Obj} {p : Addr} {v : Value} (h : W.heap[B]? = some ob ∧ W.cell? p = some v ∧ Below B0 W0 W ∧ B0 ≤ W.heap.size) : Below B0 W0 W := h.2.2.1

theorem wrap_add_l (a b : Int) : IntKind.u64.wrap (IntKind.u64.wrap a + b) = IntKind.u64.wrap (a + b) := by simp only [IntKind.wrap_u64]; omega
theorem wrap_add_r (a b : Int) : IntKind.u64.wrap (a + IntKind.u64.wrap b) = IntKind.u64.wrap (a + b) := by simp only [IntKind.wrap_u64]; omega
theorem wrap_bd (a : Int) : 0 ≤ IntKind.u64.wrap a ∧ IntKind.u64.wrap a < 18446744073709551616 := by simp only [IntKind.wrap_u64]; omega
theorem wrap_id {a : Int} (h0 : 0 ≤ a) (h1 : a < 18446744073709551616) : IntKind.u64.wrap a = a := by simp only [IntKind.wrap_u64]; omega

theorem eq_self (n : Int) (bs : List Int) (hn : (Lit.int .i64 n).wf = true) (hb : bs.length = 16) (wb : ∀ b ∈ bs, (Lit.int .u8 b).wf = true) (W : World) :
    (Op.equalIn 10000 24 (.agg (val n bs)) (.agg (val n bs))).run Try.prog W = .ok true W := by
  rw [eq_val n n bs bs hn hn hb hb wb wb W]; simp
theorem eq_from (n : Int) (W : World) : (Op.equalIn 10000 24 (.agg (val 8 (from_ n))) (.agg (val 8 (from_ n)))).run Try.prog W = .ok true W := eq_self 8 _ (by decide) (from_length n) (wf_from n) W
end Go.Proofs.Ytniipochjgmclaa
