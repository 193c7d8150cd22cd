/- The walk of the law BitsAll. -/
import Derived.Test.YtijmpofgblmepaaBitsD
set_option linter.unusedVariables false
namespace Go.Proofs.Ytijmpofgblmepaa
open Go.RowKit Go.ChangeShapes

theorem u8s {zs : List Int} (h : ∀ z ∈ zs, (Lit.int .u8 z).wf = true) : ∀ z ∈ zs, 0 ≤ z ∧ z < 256 := fun z hz => by have := bounds_u8 (h z hz); omega

/-- What a call leaves as it was gives one result. -/
def Gives (f : Nat) (args : Array Value) (v : Value) (W : World) : Prop := Calls Try.prog f args W fun e w' => e = .returned v ∧ W = w'
theorem gives {f : Nat} {args : Array Value} {v : Value} {W : World} (h : Gives f args v W) : Calls Try.prog f args W fun e w' => e = .returned v ∧ W = w' := h

theorem num_any (A : Option Addr) (c : Nat) (zs : List Int) (at_ k : Int) (hz : ∀ z ∈ zs, 0 ≤ z ∧ z < 256) (hl : zs.length ≤ 65536) : ∃ (v : Int) (b : Bool), ∀ (W : World) (B : Nat), Rd W B A (zs.map (.int .u8)) →
    Gives 11 #[.slice A zs.length c, .int .i64 at_, .int .i64 k] (.tuple #[.int .u64 v, .bool b]) W ∧
    Gives 12 #[.slice A zs.length c, .int .i64 at_, .int .i64 k] (.tuple #[.int .u64 v, .bool b]) W := by
  by_cases h : 1 ≤ k ∧ k ≤ 8 ∧ 0 ≤ at_ ∧ at_ + k ≤ zs.length
  · obtain ⟨h1, h2, h3, h4⟩ := h
    obtain ⟨k, rfl⟩ := Int.eq_ofNat_of_zero_le (show 0 ≤ k by omega)
    obtain ⟨at_, rfl⟩ := Int.eq_ofNat_of_zero_le h3
    exact ⟨_, _, fun W B hr => ⟨num_yes B A c zs at_ k W hr hz hl (by omega) (by omega) (by omega), rnum_yes B A c zs at_ k W hr hz hl (by omega) (by omega) (by omega)⟩⟩
  · exact ⟨_, _, fun W B hr => ⟨num_no A zs.length c at_ k W hl h, rnum_no A zs.length c at_ k W hl h⟩⟩
theorem narrow_any (n k : Int) : ∃ (v : Int) (b : Bool), ∀ W : World, Gives 13 #[.int .i64 n, .int .i64 k] (.tuple #[.int .u64 v, .bool b]) W ∧ Gives 14 #[.int .i64 n, .int .i64 k] (.tuple #[.int .u64 v, .bool b]) W := by
  by_cases h : 1 ≤ k ∧ k ≤ 8
  · by_cases hs : sig n k = n
    · exact ⟨_, _, fun W => ⟨narrow_yes n k W h.1 h.2 hs, rnarrow_yes n k W h.1 h.2 hs⟩⟩
    · exact ⟨_, _, fun W => ⟨narrow_not n k W h.1 h.2 hs, rnarrow_not n k W h.1 h.2 hs⟩⟩
  · exact ⟨_, _, fun W => ⟨narrow_no n k W h, rnarrow_no n k W h⟩⟩
theorem fits_any (n k : Int) (h1 : 0 ≤ n) (h2 : n < 18446744073709551616) : ∃ b : Bool, ∀ W : World, Gives 18 #[.int .u64 n, .int .i64 k] (.bool b) W ∧ Gives 19 #[.int .u64 n, .int .i64 k] (.bool b) W := by
  by_cases h : 1 ≤ k ∧ k ≤ 8
  · exact ⟨_, fun W => ⟨fits_yes n k W h.1 h.2, rfits_yes n k W h.1 h.2 h1 h2⟩⟩
  · exact ⟨_, fun W => ⟨fits_no n k W h, rfits_no n k W h⟩⟩
theorem signed_any (n k : Int) : ∃ v : Int, ∀ W : World, Gives 20 #[.int .u64 n, .int .i64 k] (.int .i64 v) W ∧ Gives 21 #[.int .u64 n, .int .i64 k] (.int .i64 v) W := by
  by_cases h : 1 ≤ k ∧ k ≤ 8
  · exact ⟨_, fun W => ⟨signed_yes n k W h.1 h.2, rsigned_yes n k W h.1 h.2⟩⟩
  · exact ⟨_, fun W => ⟨signed_no n k W h, rsigned_no n k W h⟩⟩
theorem put_any (A : Option Addr) (c : Nat) (zs : List Int) (n k : Int) (hl : zs.length ≤ 65536) (h1 : 0 ≤ n) (h2 : n < 18446744073709551616) : ∃ xs : List Int, ∀ (W : World) (B : Nat), Rd W B A (zs.map (.int .u8)) → B ≤ W.heap.size →
    Calls Try.prog 16 #[.slice A zs.length c, .int .u64 n, .int .i64 k] W (Out W.heap.size W 5 xs.length (xs.map (.int .u8))) ∧
    Calls Try.prog 17 #[.slice A zs.length c, .int .u64 n, .int .i64 k] W (Out W.heap.size W 5 xs.length (xs.map (.int .u8))) := by
  by_cases h : 1 ≤ k ∧ k ≤ 8
  · obtain ⟨k, rfl⟩ := Int.eq_ofNat_of_zero_le (show 0 ≤ k by omega)
    refine ⟨zs ++ le n k, fun W B hr hB => ?_⟩
    rw [List.length_append, le_length]
    exact ⟨put_yes B A c zs n k W hr hl (by omega) (by omega) h1, rput_yes B A c zs n k W hr hB hl (by omega) (by omega) h1 h2⟩
  · exact ⟨zs, fun W B hr hB => ⟨put_no B A c zs n k W hr hl h, rput_no B A c zs n k W hr hB hl h⟩⟩

theorem bitsAll_walk (w : World) (A0 : Option Addr) (c0 : Nat) (z0 : List Int) (rd0 : Rd w w.heap.size A0 (z0.map (.int .u8))) (l0 : z0.length ≤ c0) (m0 : c0 ≤ maxLen) (w0 : ∀ z ∈ z0, (Lit.int .u8 z).wf = true)
    (a1 : Int) (w1 : (Lit.int .u64 a1).wf = true) (a2 : Int) (w2 : (Lit.int .i64 a2).wf = true) (a3 : Int) (w3 : (Lit.int .i64 a3).wf = true) (a4 : Int) (w4 : (Lit.int .i64 a4).wf = true) (a5 : Int) (w5 : (Lit.int .i64 a5).wf = true) :
    Calls Try.prog 3 #[.slice A0 z0.length c0, .int .u64 a1, .int .i64 a2, .int .i64 a3, .int .i64 a4, .int .i64 a5] w fun e w' => e = .returned (.bool true) ∧ Below w.heap.size w w' := by
  obtain ⟨b1, b1'⟩ := bounds_u64 w1
  unfold maxLen at m0
  by_cases hl : 300 < z0.length
  · clear rd0 w0 w1 w2 w3 w4 w5
    go_enter Try.func3, Try.ntmps3
    go_wp2_with (go_at_call 10; refine (awake _).mono ?_; rintro e w' ⟨rfl, hb⟩)
    go_ret
    exact ⟨rfl, hb⟩
  · have hl' : z0.length ≤ 300 := by omega
    obtain ⟨nv, nb, hn⟩ := num_any A0 c0 z0 a3 a4 (u8s w0) (by omega)
    obtain ⟨rv, rb, hr⟩ := narrow_any a2 a4
    obtain ⟨fb, hf⟩ := fits_any a1 a4 b1 (by omega)
    obtain ⟨sv, hs⟩ := signed_any a1 a4
    obtain ⟨xs, hp⟩ := put_any A0 c0 z0 a1 a4 (by omega) b1 (by omega)
    have ht : ∀ W, Calls Try.prog 22 #[.int .u64 a1, .int .i64 a5] W fun e w' => e = .returned (.int .u64 (rot a1 (a5 % 64))) ∧ ∃ m, w' = W.drewN m := fun W => turn a1 a5 W b1 (by omega)
    have hrt : ∀ W, Calls Try.prog 23 #[.int .u64 a1, .int .i64 a5] W fun e w' => e = .returned (.int .u64 (rot a1 (a5 % 64))) ∧ ∃ m, w' = W.drewN m := fun W => rturn a1 a5 W b1 (by omega)
    have HN := Lib.hid hn; have HR := Lib.hid hr; have HF := Lib.hid hf; have HS := Lib.hid hs; have HP := Lib.hid hp; have HT := Lib.hid ht; have HRT := Lib.hid hrt; have HD := Lib.hid rd0
    clear hn hr hf hs hp ht hrt w0 w1 w2 w3 w4 w5 b1 b1' hl rd0
    go_enter Try.func3, Try.ntmps3
    go_wp2_with (first
      | (go_at_call 11; refine (gives (HN.out _ _ HD.out).1).mono ?_; rintro e w' ⟨rfl, rfl⟩)
      | (go_at_call 12; refine (gives (HN.out _ _ HD.out).2).mono ?_; rintro e w' ⟨rfl, rfl⟩)
      | (go_at_call 13; refine (gives (HR.out _).1).mono ?_; rintro e w' ⟨rfl, rfl⟩)
      | (go_at_call 14; refine (gives (HR.out _).2).mono ?_; rintro e w' ⟨rfl, rfl⟩))
    refine (HP.out _ _ HD.out (Nat.le_refl _)).1.mono ?_
    rintro e w1 ⟨v1, rfl, own1, hb1⟩
    have HB1 := Lib.hid hb1
    have HO1 := Lib.hid own1
    clear own1 hb1
    go_wp2_with fail
    refine (HP.out _ _ (HD.out.below HB1.out) HB1.out.size).2.mono ?_
    rintro e w2 ⟨v2, rfl, own2, hb2⟩
    obtain ⟨A1, c1, rfl, _, _, rd1, _⟩ := Rd.of_own HO1.out
    obtain ⟨A2, c2, rfl, _, _, rd2, _⟩ := Rd.of_own own2
    have HS1 := Lib.hid (same_eq _ _ A1 A2 c1 c2 xs w2 (rd1.below hb2) rd2)
    have HB := Lib.hid (HB1.out.trans (hb2.mono HB1.out.size))
    clear own2 hb2 rd1 rd2
    go_wp2_with fail
    refine HS1.out.mono ?_
    rintro e w3 ⟨rfl, rfl⟩
    go_wp2_with (first
      | (go_at_call 18; refine (gives (HF.out _).1).mono ?_; rintro e w' ⟨rfl, rfl⟩)
      | (go_at_call 19; refine (gives (HF.out _).2).mono ?_; rintro e w' ⟨rfl, rfl⟩)
      | (go_at_call 20; refine (gives (HS.out _).1).mono ?_; rintro e w' ⟨rfl, rfl⟩)
      | (go_at_call 21; refine (gives (HS.out _).2).mono ?_; rintro e w' ⟨rfl, rfl⟩)
      | (go_at_call 22; refine (HT.out _).mono ?_; rintro e w' ⟨rfl, m1, rfl⟩)
      | (go_at_call 23; refine (HRT.out _).mono ?_; rintro e w' ⟨rfl, m2, rfl⟩)
      | (go_at_call 10; refine (awake _).mono ?_; rintro e w' ⟨rfl, hb⟩))
    go_ret
    exact ⟨rfl, (below_drewN HB.out _).trans (hb.mono HB.out.size)⟩
end Go.Proofs.Ytijmpofgblmepaa
