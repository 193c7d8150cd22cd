/- The walk of the law BitsSigned. -/
import Derived.Test.YtijmpofgblmepaaWBitsAll
set_option linter.unusedVariables false
namespace Go.Proofs.Ytijmpofgblmepaa
open Go.RowKit Go.ChangeShapes

theorem half_eq (k : Int) (h1 : 1 ≤ k) (h2 : k ≤ 8) : ∃ h : Int, wrap64 (2 ^ (8 * k - 2).toNat) = h ∧ pw k = 4 * h ∧ 0 < h ∧ h ≤ 4611686018427387904 := by
  rw [← IntWalk.i64_left]
  obtain ⟨p1, p2, p3, p4, p5, p6, p7, p8⟩ := pw_vals
  rcases width_cases k h1 h2 with rfl | rfl | rfl | rfl | rfl | rfl | rfl | rfl
  · exact ⟨64, by decide, by rw [p1]; decide, by decide, by decide⟩
  · exact ⟨16384, by decide, by rw [p2]; decide, by decide, by decide⟩
  · exact ⟨4194304, by decide, by rw [p3]; decide, by decide, by decide⟩
  · exact ⟨1073741824, by decide, by rw [p4]; decide, by decide, by decide⟩
  · exact ⟨274877906944, by decide, by rw [p5]; decide, by decide, by decide⟩
  · exact ⟨70368744177664, by decide, by rw [p6]; decide, by decide, by decide⟩
  · exact ⟨18014398509481984, by decide, by rw [p7]; decide, by decide, by decide⟩
  · exact ⟨4611686018427387904, by decide, by rw [p8]; decide, by decide, by decide⟩
theorem sig_iff (n k h : Int) (hp : pw k = 4 * h) (h0 : 0 < h) : sig n k = n ↔ -(2 * h) ≤ n ∧ n < 2 * h := by
  unfold sig
  rw [hp, show 4 * h / 2 = 2 * h from by omega]
  constructor
  · intro e
    have g1 := Int.emod_nonneg (n + 2 * h) (show 4 * h ≠ 0 by omega)
    have g2 := Int.emod_lt_of_pos (n + 2 * h) (show 0 < 4 * h by omega)
    omega
  · intro ⟨g1, g2⟩
    rw [Int.emod_eq_of_lt (by omega) (by omega)]
    omega
theorem td_neg {a : Int} (h : a ≤ 0) : a.tdiv 2 = -((-a) / 2) := by
  have : a = -(-a) := by omega
  rw [this, Int.neg_tdiv, Int.tdiv_eq_ediv_of_nonneg (by omega)]
  simp
theorem fits_low (n k : Int) : (n % pw k % pw k == n % pw k) = true := by simp

theorem bitsSigned_walk (w : World) (a0 : Int) (w0 : (Lit.int .i64 a0).wf = true) (a1 : Int) (w1 : (Lit.int .i64 a1).wf = true) :
    Calls Try.prog 6 #[.int .i64 a0, .int .i64 a1] w fun e w' => e = .returned (.bool true) ∧ Below w.heap.size w w' := by
  obtain ⟨b0, b0'⟩ := bounds_i64 w0
  by_cases hm : 1 ≤ a1 ∧ a1 ≤ 8
  · obtain ⟨k1, k2⟩ := hm
    clear w0 w1
    obtain ⟨h, hh, hp, hpos, hle⟩ := half_eq a1 k1 k2
    have hiff := sig_iff a0 a1 h hp hpos
    by_cases hs : sig a0 a1 = a0
    · have H := Lib.hid (narrow_yes a0 a1 w k1 k2 hs)
      have HF := Lib.hid (fits_yes (a0 % pw a1) a1 w k1 k2)
      have HS := Lib.hid (signed_yes (a0 % pw a1) a1 w k1 k2)
      rw [fits_low] at HF
      rw [sig_mod _ _ k1 k2, hs] at HS
      obtain ⟨g1, g2⟩ := hiff.1 hs
      by_cases hn : 0 ≤ a0
      · have t1 : a0 / 2 < h := by omega
        clear hiff hs hp
        go_enter Try.func6, Try.ntmps6
        go_wp2_with (first
          | (go_at_call 13; refine H.out.mono ?_; rintro e w' ⟨rfl, rfl⟩)
          | (go_at_call 18; refine HF.out.mono ?_; rintro e w' ⟨rfl, rfl⟩)
          | (go_at_call 20; refine HS.out.mono ?_; rintro e w' ⟨rfl, rfl⟩)
          | (go_at_call 10; refine (awake _).mono ?_; rintro e w' ⟨rfl, hb⟩))
        go_ret
        exact ⟨rfl, hb⟩
      · have t1 : a0.tdiv 2 < h := by rw [td_neg (by omega)]; omega
        have t2 : -h < (a0 + 1).tdiv 2 := by rw [td_neg (by omega)]; omega
        have hn' : a0 < 0 := by omega
        clear hiff hs hp hn
        go_enter Try.func6, Try.ntmps6
        go_wp2_with (first
          | (go_at_call 13; refine H.out.mono ?_; rintro e w' ⟨rfl, rfl⟩)
          | (go_at_call 18; refine HF.out.mono ?_; rintro e w' ⟨rfl, rfl⟩)
          | (go_at_call 20; refine HS.out.mono ?_; rintro e w' ⟨rfl, rfl⟩)
          | (go_at_call 10; refine (awake _).mono ?_; rintro e w' ⟨rfl, hb⟩))
        go_ret
        exact ⟨rfl, hb⟩
    · have H := Lib.hid (narrow_not a0 a1 w k1 k2 hs)
      have hno : ¬ (-(2 * h) ≤ a0 ∧ a0 < 2 * h) := fun g => hs (hiff.2 g)
      by_cases hn : 0 ≤ a0
      · have t1 : decide (a0 / 2 < h) = false := by simp; omega
        clear hiff hs hp hno
        go_enter Try.func6, Try.ntmps6
        go_wp2_with (first
          | (go_at_call 13; refine H.out.mono ?_; rintro e w' ⟨rfl, rfl⟩)
          | (go_at_call 10; refine (awake _).mono ?_; rintro e w' ⟨rfl, hb⟩))
        go_ret
        exact ⟨rfl, hb⟩
      · have t1 : a0.tdiv 2 < h := by rw [td_neg (by omega)]; omega
        have t2 : decide (-h < (a0 + 1).tdiv 2) = false := by rw [td_neg (by omega)]; simp; omega
        have hn' : a0 < 0 := by omega
        clear hiff hs hp hn hno
        go_enter Try.func6, Try.ntmps6
        go_wp2_with (first
          | (go_at_call 13; refine H.out.mono ?_; rintro e w' ⟨rfl, rfl⟩)
          | (go_at_call 10; refine (awake _).mono ?_; rintro e w' ⟨rfl, hb⟩))
        go_ret
        exact ⟨rfl, hb⟩
  · rcases out_may a1 hm with m | ⟨m1, m2⟩ <;> clear hm w0 w1
    all_goals
      go_enter Try.func6, Try.ntmps6
      go_wp2_with (go_at_call 10; refine (awake _).mono ?_; rintro e w' ⟨rfl, hb⟩)
      go_ret
      exact ⟨rfl, hb⟩
end Go.Proofs.Ytijmpofgblmepaa
