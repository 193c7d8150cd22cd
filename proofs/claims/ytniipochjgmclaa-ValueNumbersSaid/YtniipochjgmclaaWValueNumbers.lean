
/- The walk of the law ValueNumbers. -/
import Derived.Test.YtniipochjgmclaaVal9
set_option linter.unusedVariables false
namespace Go.Proofs.Ytniipochjgmclaa
open Go.RowKit Go.ChangeShapes Go.ChangeAt Go.WideShapes
attribute [local go_sem ↓] load24
attribute [local go_sem] rowOf loadOf

set_option maxHeartbeats 2000000 in
theorem valueNumbers_walk (w : World) (a0 : Int) (w0 : (Lit.int .u64 a0).wf = true) (a1 : Int) (w1 : (Lit.int .u64 a1).wf = true) :
    Calls Try.prog 5 #[.int .u64 a0, .int .u64 a1] w fun e w' => e = .returned (.bool true) ∧ Below w.heap.size w w' := by
  obtain ⟨x0, x0'⟩ := bounds_u64 w0
  obtain ⟨x1, x1'⟩ := bounds_u64 w1
  obtain ⟨s, hs⟩ : ∃ s, IntKind.u64.wrap (a0 + a1) = s := ⟨_, rfl⟩
  have hsb := wrap_bd (a0 + a1)
  rw [hs] at hsb
  obtain ⟨m, hm⟩ : ∃ m, IntKind.u64.wrap (-a1) = m := ⟨_, rfl⟩
  have hback : IntKind.u64.wrap (s + m) = a0 := by
    rw [← hs, ← hm]; simp only [IntKind.wrap_u64]; omega
  have C1 := Lib.hid (fun W => show Calls Try.prog 15 #[.int .u64 a0] W (Gives2 W (.agg (val 8 (from_ a0)))) from from_any a0 W x0)
  have C2 := Lib.hid (fun W => show Calls Try.prog 11 #[.agg (val 8 (from_ a0))] W (Gives2 W (.bool true)) from by have := check_any 8 (from_ a0) W (from_length a0) (wf_from a0); rwa [vcheck_from] at this)
  have C3 := Lib.hid (fun W => show Calls Try.prog 17 #[.agg (val 8 (from_ a0))] W (Gives2 W (.int .u64 a0)) from by have := number_any 8 (from_ a0) W (from_length a0) (wf_from a0); rwa [num_from a0 x0 (by omega)] at this)
  have C4 := Lib.hid (fun W => show Calls Try.prog 19 #[.agg (val 8 (from_ a0)), .int .u64 a1] W (Gives2 W (.agg (val 8 (from_ s)))) from by have := plus_any 8 (from_ a0) a1 W (from_length a0) (wf_from a0); rwa [num_from a0 x0 (by omega), hs] at this)
  have C5 := Lib.hid (fun W => show Calls Try.prog 15 #[.int .u64 s] W (Gives2 W (.agg (val 8 (from_ s)))) from from_any s W hsb.1)
  have C6 := Lib.hid (fun W => show Calls Try.prog 19 #[.agg (val 8 (from_ s)), .int .u64 m] W (Gives2 W (.agg (val 8 (from_ a0)))) from by have := plus_any 8 (from_ s) m W (from_length s) (wf_from s); rwa [num_from s hsb.1 hsb.2, hback] at this)
  have E1 := Lib.hid (fun W => eq_from s W)
  have E2 := Lib.hid (fun W => eq_from a0 W)
  have S0 := Lib.hid (show (val 0 val0).size = 17 by decide)
  have T0 := Lib.hid (show (val 8 (from_ a0)).size = 17 from val_size _ _ (from_length a0))
  clear w0 w1 x0 x0' x1 x1' hsb hback
  go_enter Try.func5, Try.ntmps5
  go_wp2_with fail
  refine (C1.out _).mono ?_
  rintro e w1 ⟨rfl, h1⟩
  go_wp2_with (refine wpl_alloc run_alloc24 rfl rfl ?_)
  intro W1 g1 b1 s1
  go_wp2_with (refine wpl_store 24 (.tmp 5) (.tmp 7) rfl rfl _ (val 8 (from_ a0)) rfl rfl 24 _ g1 (by rw [T0.out]; exact size24) (S0.out.trans T0.out.symm) (val_one _ _) ?_)
  intro W2 g2 b2 s2
  have Z : Below w.heap.size w W2 := Below.of_grown (h1.trans (b1.mono h1.size)) b2 (by have := b1.size; have := h1.size; omega) h1.size
  generalize hB1 : w1.heap.size = B1
  rw [hB1] at g2
  have I : W2.drew.heap[B1]? = some (.cells (val 8 (from_ a0)) 24 (0, 0)) ∧ W2.drew.cell? ⟨B1, 0, none⟩ = some (.int .i64 8) ∧ Below w.heap.size w W2.drew ∧ w.heap.size ≤ W2.drew.heap.size := ⟨g2, cell_val0 g2, Z.drew, Z.drew.size⟩
  clear Z b1 s1 b2 s2 g1 h1 g2
  have t0 := T0.out
  have E1' := E1.out
  have E2' := E2.out
  go_wp2
  go_region_held3 (fun W => W.heap[B1]? = some (.cells (val 8 (from_ a0)) 24 (0, 0)) ∧ W.cell? ⟨B1, 0, none⟩ = some (.int .i64 8) ∧ Below w.heap.size w W ∧ w.heap.size ≤ W.heap.size) (first | exact keepc (by assumption) (by assumption) | exact I)
    (first
      | (go_at_call 11; refine (C2.out _).mono ?_; rintro e wx ⟨rfl, hx⟩)
      | (go_at_call 17; refine (C3.out _).mono ?_; rintro e wx ⟨rfl, hx⟩)
      | (go_at_call_of 19 (Value.agg (val 8 (from_ a0))); refine (C4.out _).mono ?_; rintro e wx ⟨rfl, hx⟩)
      | (go_at_call_of 19 (Value.agg (val 8 (from_ s))); refine (C6.out _).mono ?_; rintro e wx ⟨rfl, hx⟩)
      | (go_at_call 15; refine (C5.out _).mono ?_; rintro e wx ⟨rfl, hx⟩)
      | (go_at_call 8; refine (awake _).mono ?_; rintro e wx ⟨rfl, hx⟩))
  all_goals go_wp2
  all_goals go_ret
  all_goals exact ⟨rfl, heldc (by assumption)⟩
end Go.Proofs.Ytniipochjgmclaa
