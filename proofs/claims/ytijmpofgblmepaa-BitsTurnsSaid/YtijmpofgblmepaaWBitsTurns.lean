/- The walk of the law BitsTurns. -/
import Derived.Test.YtijmpofgblmepaaWBitsAll
import Derived.Test.YtijmpofgblmepaaRot
set_option linter.unusedVariables false
namespace Go.Proofs.Ytijmpofgblmepaa
open Go.RowKit Go.ChangeShapes

theorem tmod_bd (a : Int) : -63 ≤ a.tmod 64 ∧ a.tmod 64 ≤ 63 ∧ a.tmod 64 % 64 = a % 64 := by
  rcases Int.lt_or_le a 0 with h | h
  · rw [tm_neg _ h]; omega
  · rw [tm_pos _ h]; omega

/-- A turn with its result under a name. -/
theorem turn_to (n k v : Int) (h0 : 0 ≤ n) (h1 : n < 18446744073709551616) (hv : rot n (k % 64) = v) : ∀ w, Calls Try.prog 22 #[.int .u64 n, .int .i64 k] w fun e w' => e = .returned (.int .u64 v) ∧ ∃ m, w' = w.drewN m := by
  intro w; subst hv; exact turn n k w h0 h1

set_option maxHeartbeats 400000 in
theorem bitsTurns_walk (w : World) (a0 : Int) (w0 : (Lit.int .u64 a0).wf = true) (a1 : Int) (w1 : (Lit.int .i64 a1).wf = true) (a2 : Int) (w2 : (Lit.int .i64 a2).wf = true) :
    Calls Try.prog 7 #[.int .u64 a0, .int .i64 a1, .int .i64 a2] w fun e w' => e = .returned (.bool true) ∧ Below w.heap.size w w' := by
  obtain ⟨b0, b0'⟩ := bounds_u64 w0
  have b0'' : a0 < 18446744073709551616 := by omega
  obtain ⟨x, hx⟩ : ∃ x, a1.tmod 64 = x := ⟨_, rfl⟩
  obtain ⟨y, hy⟩ : ∃ y, a2.tmod 64 = y := ⟨_, rfl⟩
  obtain ⟨t, ht⟩ : ∃ t, rot a0 (a1 % 64) = t := ⟨_, rfl⟩
  obtain ⟨q, hq⟩ : ∃ q, rot t (a2 % 64) = q := ⟨_, rfl⟩
  have bx := tmod_bd a1
  rw [hx] at bx
  have by_ := tmod_bd a2
  rw [hy] at by_
  obtain ⟨x1, x2, x3⟩ := bx
  obtain ⟨y1, y2, y3⟩ := by_
  have tr := rot_range a0 (a1 % 64) b0 b0'' (by omega) (by omega)
  rw [ht] at tr
  have H1 := Lib.hid (turn_to a0 a1 t b0 b0'' ht)
  have H2 := Lib.hid (turn_to t a2 q tr.1 tr.2 hq)
  have H3 := Lib.hid (turn_to a0 (x + y) q b0 b0'' (by rw [← hq, ← ht, rot_rot a0 (a1 % 64) (a2 % 64) ((x + y) % 64) b0 b0'' (by omega) (by omega) (by omega) (by omega) (by omega) (by omega) (by omega)]))
  have H4 := Lib.hid (turn_to t (-x) a0 tr.1 tr.2 (by rw [← ht, rot_rot a0 (a1 % 64) (-x % 64) 0 b0 b0'' (by omega) (by omega) (by omega) (by omega) (by omega) (by omega) (by omega), rot_none a0 b0 b0'']))
  have H5 := Lib.hid (turn_to a0 (x + 64) t b0 b0'' (by rw [← ht]; congr 1; omega))
  have HS := Lib.hid (show sumTo (nbit t) 64 = sumTo (nbit a0) 64 from by rw [← ht]; exact ones_rot a0 (a1 % 64) b0 b0'' (by omega) (by omega))
  have HB0 := Lib.hid b0''
  have HTR := Lib.hid tr.2
  have tr1 := tr.1
  clear w0 w1 w2 b0' b0'' ht hq x3 y3 tr
  go_enter Try.func7, Try.ntmps7
  go_wp2_with fail
  refine (H1.out _).mono ?_
  rintro e w1 ⟨rfl, m1, rfl⟩
  go_wp2_with fail
  refine (H2.out _).mono ?_
  rintro e w1 ⟨rfl, m2, rfl⟩
  go_wp2_with fail
  refine (H3.out _).mono ?_
  rintro e w1 ⟨rfl, m3, rfl⟩
  go_wp2_with fail
  refine (H4.out _).mono ?_
  rintro e w1 ⟨rfl, m4, rfl⟩
  go_wp2_with fail
  refine (H5.out _).mono ?_
  rintro e w1 ⟨rfl, m5, rfl⟩
  clear hx hy
  go_wp2_with fail
  go_loop [10, 11] (fun s i => ∃ j : Nat, j ≤ 64 ∧ i = .int .i64 j ∧ s = .int .i64 (sumTo (nbit a0) j - sumTo (nbit t) j)) (fun _ i => 64 - (intOf i).toNat)
  case atStart => exact ⟨0, by omega, rfl, rfl⟩
  case round =>
    obtain ⟨j, hj, rfl, rfl⟩ := hrel
    by_cases hlt : j < 64
    · have s1 := sum_bd a0 j
      have s2 := sum_bd t j
      have n1 := nbit_01 a0 j
      have n2 := nbit_01 t j
      have g1 := nbit_and a0 j b0 HB0.out
      have g2 := nbit_and t j tr1 HTR.out
      go_wp2_with fail
      go_round
      case rel => exact ⟨j + 1, by omega, by go_num, by rw [sumTo, sumTo]; congr 1; omega⟩
      case measure => simp [intOf]; omega
    · have : j = 64 := by omega
      subst this
      have z0 : sumTo (nbit a0) 64 - sumTo (nbit t) 64 = 0 := by rw [HS.out]; omega
      go_wp2_with (go_at_call 10; refine (awake _).mono ?_; rintro e w' ⟨rfl, hb⟩)
      go_ret
      exact ⟨rfl, (below_drewN (Below.refl _ _) _).trans hb⟩
end Go.Proofs.Ytijmpofgblmepaa
