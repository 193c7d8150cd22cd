/- The walk of the law BitsFits. -/
import Derived.Test.YtijmpofgblmepaaWBitsBack
set_option linter.unusedVariables false
namespace Go.Proofs.Ytijmpofgblmepaa
open Go.RowKit Go.ChangeShapes

theorem pw_succ (k : Nat) : pw ((k : Int) + 1) = 256 * pw k := by
  unfold pw
  rw [show ((k : Int) + 1).toNat = k + 1 from by omega, Int.toNat_natCast, Int.pow_succ, Int.mul_comm]
theorem fits_more (n : Int) (k : Nat) (h0 : 0 ≤ n) (h : (n % pw k == n) = true) : (n % pw ((k : Int) + 1) == n) = true := by
  rw [beq_iff_eq] at h ⊢
  have hp := pw_pos k
  have hlt := Int.emod_lt_of_pos n hp
  rw [pw_succ]
  exact Int.emod_eq_of_lt h0 (by omega)

set_option maxHeartbeats 400000 in
theorem bitsFits_walk (w : World) (a0 : Int) (w0 : (Lit.int .u64 a0).wf = true) (a1 : Int) (w1 : (Lit.int .i64 a1).wf = true) :
    Calls Try.prog 8 #[.int .u64 a0, .int .i64 a1] w fun e w' => e = .returned (.bool true) ∧ Below w.heap.size w w' := by
  obtain ⟨b0, b0'⟩ := bounds_u64 w0
  by_cases hm : 1 ≤ a1 ∧ a1 ≤ 7
  · obtain ⟨k1, k2⟩ := hm
    obtain ⟨k, rfl⟩ := Int.eq_ofNat_of_zero_le (show 0 ≤ a1 by omega)
    have F8 := Lib.hid (fun W => (show Calls Try.prog 18 #[.int .u64 a0, .int .i64 8] W fun e w' => e = .returned (.bool true) ∧ W = w' by have := fits_yes a0 8 W (by decide) (by decide); rwa [fits_8 a0 b0 (by omega)] at this))
    obtain ⟨m, hmod⟩ : ∃ m, a0 % pw k = m := ⟨_, rfl⟩
    have P := Lib.hid (put_yes 0 none 0 [] a0 k w Rd.nil (by decide) (by omega) (by omega) b0)
    have HN := Lib.hid (fun W A c (h : Rd W W.heap.size A ((([] : List Int) ++ le a0 k).map (.int .u8))) => by
      have := num_back _ A c [] a0 k W h (by simp) (by decide) (by omega) (by omega) b0
      rw [hmod] at this
      simp only [List.length_nil, Nat.zero_add, Int.natCast_zero] at this
      exact this)
    by_cases hf : (m == a0) = true
    · have F := Lib.hid (fun W => (show Calls Try.prog 18 #[.int .u64 a0, .int .i64 k] W fun e w' => e = .returned (.bool true) ∧ W = w' by have := fits_yes a0 k W (by omega) (by omega); rwa [hmod, hf] at this))
      have F1 := Lib.hid (fun W => (show Calls Try.prog 18 #[.int .u64 a0, .int .i64 ((k : Int) + 1)] W fun e w' => e = .returned (.bool true) ∧ W = w' by have := fits_yes a0 ((k : Int) + 1) W (by omega) (by omega); rwa [fits_more a0 k b0 (by rw [hmod]; exact hf)] at this))
      have hm : m = a0 := by simpa using hf
      subst hm
      clear w0 w1 hf hmod b0'
      go_enter Try.func8, Try.ntmps8
      go_wp2_with fail
      refine P.out.mono ?_
      rintro e w1 ⟨v1, rfl, own1, hb1⟩
      rw [show ([] : List Int).length + k = k from by simp] at own1
      obtain ⟨A1, c1, rfl, l1, _, rd1, _⟩ := Rd.of_own own1
      have H := Lib.hid (HN.out w1 A1 c1 rd1)
      have HB := Lib.hid hb1
      clear own1 rd1 hb1
      go_wp2_with fail
      refine H.out.mono ?_
      rintro e w2 ⟨rfl, rfl⟩
      go_wp2_with fail
      refine (F.out _).mono ?_
      rintro e w2 ⟨rfl, rfl⟩
      go_wp2_with fail
      refine (F1.out _).mono ?_
      rintro e w2 ⟨rfl, rfl⟩
      go_wp2_with fail
      refine (F8.out _).mono ?_
      rintro e w2 ⟨rfl, rfl⟩
      go_wp2_with (go_at_call 10; refine (awake _).mono ?_; rintro e w' ⟨rfl, hb⟩)
      go_ret
      exact ⟨rfl, HB.out.trans (hb.mono HB.out.size)⟩
    · have hf' : (m == a0) = false := by simpa using hf
      have F := Lib.hid (fun W => (show Calls Try.prog 18 #[.int .u64 a0, .int .i64 k] W fun e w' => e = .returned (.bool false) ∧ W = w' by have := fits_yes a0 k W (by omega) (by omega); rwa [hmod, hf'] at this))
      clear w0 w1 hf hmod b0'
      go_enter Try.func8, Try.ntmps8
      go_wp2_with fail
      refine P.out.mono ?_
      rintro e w1 ⟨v1, rfl, own1, hb1⟩
      rw [show ([] : List Int).length + k = k from by simp] at own1
      obtain ⟨A1, c1, rfl, l1, _, rd1, _⟩ := Rd.of_own own1
      have H := Lib.hid (HN.out w1 A1 c1 rd1)
      have HB := Lib.hid hb1
      clear own1 rd1 hb1
      go_wp2_with fail
      refine H.out.mono ?_
      rintro e w2 ⟨rfl, rfl⟩
      go_wp2_with fail
      refine (F.out _).mono ?_
      rintro e w2 ⟨rfl, rfl⟩
      go_wp2_with fail
      refine (F8.out _).mono ?_
      rintro e w2 ⟨rfl, rfl⟩
      go_wp2_with (go_at_call 10; refine (awake _).mono ?_; rintro e w' ⟨rfl, hb⟩)
      go_ret
      exact ⟨rfl, HB.out.trans (hb.mono HB.out.size)⟩
  · have : a1 < 1 ∨ (1 ≤ a1 ∧ 7 < a1) := by omega
    rcases this with m | ⟨m1, m2⟩ <;> clear hm w0 w1
    all_goals
      go_enter Try.func8, Try.ntmps8
      go_wp2_with (go_at_call 10; refine (awake _).mono ?_; rintro e w' ⟨rfl, hb⟩)
      go_ret
      exact ⟨rfl, hb⟩
end Go.Proofs.Ytijmpofgblmepaa
