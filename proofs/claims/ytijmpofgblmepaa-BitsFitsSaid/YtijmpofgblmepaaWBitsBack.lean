/- The walk of the law BitsBack. -/
import Derived.Test.YtijmpofgblmepaaWBitsAll
set_option linter.unusedVariables false
namespace Go.Proofs.Ytijmpofgblmepaa
open Go.RowKit Go.ChangeShapes

theorem num_back (B : Nat) (A : Option Addr) (c : Nat) (zs : List Int) (n : Int) (k : Nat) (w : World) (hrd : Rd w B A ((zs ++ le n k).map (.int .u8))) (hz : ∀ z ∈ zs, 0 ≤ z ∧ z < 256) (hl : zs.length ≤ 60000) (h1 : 1 ≤ k) (h2 : k ≤ 8) (hn : 0 ≤ n) :
    Calls Try.prog 11 #[.slice A (zs.length + k) c, .int .i64 zs.length, .int .i64 k] w fun e w' => e = .returned (.tuple #[.int .u64 (n % pw k), .bool true]) ∧ w = w' := by
  have hlen : (zs ++ le n k).length = zs.length + k := by rw [List.length_append, le_length]
  have N := num_yes B A c (zs ++ le n k) zs.length k w hrd (fun z h => by rcases List.mem_append.1 h with h | h; exact hz z h; exact le_byte k n z h) (by omega) h1 h2 (by omega)
  rw [hlen, List.drop_left' rfl, List.take_of_length_le (by rw [le_length]; exact Nat.le_refl _), num_le k n hn] at N
  exact N

theorem bitsBack_walk (w : World) (A0 : Option Addr) (c0 : Nat) (z0 : List Int) (rd0 : Rd w w.heap.size A0 (z0.map (.int .u8))) (l0 : z0.length ≤ c0) (m0 : c0 ≤ maxLen) (w0 : ∀ z ∈ z0, (Lit.int .u8 z).wf = true)
    (a1 : Int) (w1 : (Lit.int .u64 a1).wf = true) (a2 : Int) (w2 : (Lit.int .i64 a2).wf = true) :
    Calls Try.prog 4 #[.slice A0 z0.length c0, .int .u64 a1, .int .i64 a2] w fun e w' => e = .returned (.bool true) ∧ Below w.heap.size w w' := by
  obtain ⟨b1, b1'⟩ := bounds_u64 w1
  unfold maxLen at m0
  by_cases hl : 300 < z0.length
  · clear rd0 w0 w1 w2
    go_enter Try.func4, Try.ntmps4
    go_wp2_with (go_at_call 10; refine (awake _).mono ?_; rintro e w' ⟨rfl, hb⟩)
    go_ret
    exact ⟨rfl, hb⟩
  have hl' : z0.length ≤ 300 := by omega
  by_cases hm : 1 ≤ a2 ∧ a2 ≤ 8
  · obtain ⟨k1, k2⟩ := hm
    obtain ⟨k, rfl⟩ := Int.eq_ofNat_of_zero_le (show 0 ≤ a2 by omega)
    have hz := u8s w0
    have e1 := lowu_eq a1 k k1 k2
    have e2 := lowu_eq (IntKind.u64.wrap (a1 + 1)) k k1 k2
    have s0 : ∀ W, Below w.heap.size w W → (convert 22 9 (.slice A0 z0.length c0)).run Try.prog W = .ok (.string (strOfNums z0)) W := fun W hW => run_str 22 5 9 c0 Try.underlying22 Try.underlying5 Try.underlying9 (rd0.below hW)
    have k0 := s0 w (Below.refl _ _)
    have hm1 : 0 ≤ IntKind.u64.wrap (a1 + 1) := by rw [IntKind.wrap_u64]; omega
    have hm2 : IntKind.u64.wrap (a1 + 1) < 18446744073709551616 := by rw [IntKind.wrap_u64]; omega
    have HM2 := Lib.hid hm2
    have HB1 := Lib.hid b1'
    have HD := Lib.hid rd0
    have HZ := Lib.hid hz
    have HS := Lib.hid s0
    have HE1 := Lib.hid e1
    have HE2 := Lib.hid e2
    clear w0 w1 w2 rd0 hz hl hm2 b1' s0 e1 e2
    go_enter Try.func4, Try.ntmps4
    go_wp2_with fail
    refine (put_yes _ A0 c0 z0 a1 k w HD.out (by omega) (by omega) (by omega) b1).mono ?_
    rintro e w1 ⟨v1, rfl, own1, hb1⟩
    obtain ⟨A1, c1, rfl, l1, _, rd1, _⟩ := Rd.of_own own1
    have RD1 := Lib.hid rd1
    have HB := Lib.hid hb1
    clear own1 rd1 hb1 k0
    go_wp2_with fail
    refine (put_yes _ A0 c0 z0 _ k w1 (HD.out.below HB.out) (by omega) (by omega) (by omega) hm1).mono ?_
    rintro e w2 ⟨v2, rfl, own2, hb2⟩
    obtain ⟨A2, c2, rfl, l2, _, rd2, _⟩ := Rd.of_own own2
    have k0 := HS.out w2 (HB.out.trans (hb2.mono HB.out.size))
    have RD2 := Lib.hid rd2
    have HB2 := Lib.hid hb2
    have ht := (RD1.out.below hb2).take_ z0.length
    rw [show ((z0 ++ le a1 k).map (Value.int .u8)).take z0.length = z0.map (Value.int .u8) from by rw [List.map_append, List.take_left' (by simp)]] at ht
    have k1 := run_str 22 5 9 c1 Try.underlying22 Try.underlying5 Try.underlying9 ht
    clear own2 rd2 hb2 ht
    have HN1 := Lib.hid (num_back _ A1 c1 z0 a1 k w2 (RD1.out.below HB2.out) HZ.out (by omega) (by omega) (by omega) b1)
    have HN2 := Lib.hid (num_back _ A2 c2 z0 _ k w2 RD2.out HZ.out (by omega) (by omega) (by omega) hm1)
    go_wp2_with fail
    refine HN1.out.mono ?_
    rintro e w3 ⟨rfl, rfl⟩
    go_wp2_with fail
    refine HN2.out.mono ?_
    rintro e w3 ⟨rfl, rfl⟩
    have e1 := HE1.out
    have e2 := HE2.out
    rw [show (64 - 8 * (k : Int)).toNat = 64 - 8 * k from by omega] at e1 e2
    go_wp2_with (go_at_call 10; refine (awake _).mono ?_; rintro e w' ⟨rfl, hb⟩)
    go_ret
    exact ⟨rfl, (HB.out.trans (HB2.out.mono HB.out.size)).trans (hb.mono (Nat.le_trans HB.out.size HB2.out.size))⟩
  · rcases out_may a2 hm with m | ⟨m1, m2⟩ <;> clear hm rd0 w0 w1 w2 hl
    all_goals
      go_enter Try.func4, Try.ntmps4
      go_wp2_with (go_at_call 10; refine (awake _).mono ?_; rintro e w' ⟨rfl, hb⟩)
      go_ret
      exact ⟨rfl, hb⟩
end Go.Proofs.Ytijmpofgblmepaa
