
/- The contracts of bits' functions and of their references. -/
import Derived.Test.YtmnokoepimhelaaChecked
import Derived.Test.YtmnokoepimhelaaBits
import Derived.Test.YtmnokoepimhelaaOpen
import Derived.Test.YtmnokoepimhelaaApp
import Derived.WalkKit
import Derived.Lib.Hide
import Derived.Deep.QuietTactic
import Derived.BigQuiet
import Derived.OpenShut
import Derived.WalkSpells
namespace Go.Proofs.Ytmnokoepimhelaa
open Go.RowKit

theorem ret_int {k : IntKind} {a b : Int} (h : a = b) : Ending.returned (.int k a) = .returned (.int k b) := by rw [h]
theorem ret_bool {a b : Bool} (h : a = b) : Ending.returned (.bool a) = .returned (.bool b) := by rw [h]

theorem may_yes (n : Int) (w : World) (h1 : 1 ≤ n) (h2 : n ≤ 8) : Calls Try.prog 39 #[.int .i64 n] w fun e w' => e = .returned (.bool true) ∧ w = w' := by
  go_enter Try.func39, Try.ntmps39
  go_wp2
  go_ret
  exact ⟨rfl, rfl⟩
theorem may_no (n : Int) (w : World) (h : ¬ (1 ≤ n ∧ n ≤ 8)) : Calls Try.prog 39 #[.int .i64 n] w fun e w' => e = .returned (.bool false) ∧ w = w' := by
  by_cases h1 : 1 ≤ n
  · have h2 : decide (n ≤ 8) = false := by simp; omega
    clear h
    go_enter Try.func39, Try.ntmps39
    go_wp2
    go_ret
    exact ⟨rfl, rfl⟩
  · have h2 : decide (1 ≤ n) = false := by simp; omega
    clear h h1
    go_enter Try.func39, Try.ntmps39
    go_wp2
    go_ret
    exact ⟨rfl, rfl⟩
theorem num_yes (B : Nat) (A : Option Addr) (c : Nat) (zs : List Int) (at_ k : Nat) (w : World) (hrd : Rd w B A (zs.map (.int .u8))) (hz : ∀ z ∈ zs, 0 ≤ z ∧ z < 256) (hl : zs.length ≤ 65536) (h1 : 1 ≤ k) (h2 : k ≤ 8) (h4 : at_ + k ≤ zs.length) :
    Calls Try.prog 37 #[.slice A zs.length c, .int .i64 at_, .int .i64 k] w fun e w' => e = .returned (.tuple #[.int .u64 (num ((zs.drop at_).take k)), .bool true]) ∧ w = w' := by
  obtain ⟨b, off, rfl, hB, hc⟩ := hrd (by intro e; simp at e; subst e; simp at h4; omega)
  have hd : decide ((zs.length : Int) - k < at_) = false := by simp; omega
  have HZ := Lib.hid hz
  have HC := Lib.hid hc
  clear hz hc hrd
  go_enter Try.func37, Try.ntmps37
  go_wp2_with (go_at_call 39; refine (may_yes _ _ (by omega) (by omega)).mono ?_; rintro e w' ⟨rfl, rfl⟩)
  go_loop [8, 9] (fun n i => ∃ j : Nat, j ≤ k ∧ i = .int .i64 ((j : Int) - 1) ∧ n = .int .u64 (num ((zs.drop (at_ + j)).take (k - j)))) (fun _ i => (intOf i + 1).toNat)
  case atStart => exact ⟨k, Nat.le_refl _, rfl, by simp [num]⟩
  case round =>
    obtain ⟨j, hj, rfl, rfl⟩ := hrel
    by_cases h0 : j = 0
    · subst h0
      go_wp2
      go_ret2
      exact ⟨by simp, rfl⟩
    · obtain ⟨i, rfl⟩ : ∃ i, j = i + 1 := ⟨j - 1, by omega⟩
      have hcell := HC.out (at_ + i) (.int .u8 (zs[at_ + i]?.getD 0)) (by rw [List.getElem?_map, List.getElem?_eq_getElem (by omega)]; rfl)
      have hst := Lib.hid (num_step zs (at_ + i) (k - (i + 1)) (by omega))
      have hp := num_part zs (at_ + i + 1) (k - (i + 1)) HZ.out (by omega)
      have hby := byte_of HZ.out (at_ + i)
      go_wp2
      refine ⟨⟨i, by omega, rfl, ?_⟩, by simp [intOf]⟩
      rw [show at_ + (i + 1) = at_ + i + 1 from by omega, or_byte _ _ hp.1 hp.2 hby.1 hby.2, ← hst.out, show k - (i + 1) + 1 = k - i from by omega]

theorem app22 : App Try.prog 52 5 1 1 := app_mk (z := .int .u8 0) Try.underlying52 (by kernel_rfl) rfl (by decide)

/-- A slice of the call's own comes back: it holds xs; what was there is as it was. -/
def Out (B : Nat) (w : World) (e : TypeId) (n : Nat) (xs : List Value) (en : Ending) (w' : World) : Prop := ∃ v, en = .returned v ∧ w'.ownsRow B e 1 v n xs ∧ Below w.heap.size w w'

theorem shr8 (n : Int) (j : Nat) : n / 256 ^ j / 256 = n / 256 ^ (j + 1) := by
  rw [Int.pow_succ, Int.ediv_ediv_of_nonneg (Int.le_of_lt (Int.pow_pos (by decide)))]

theorem rel_put {B j : Nat} {zs : List Int} {n : Int} {w wr w1 : World} {u v : Value} (hB : B ≤ wr.heap.size) (hb : Below B w wr) (hown : wr.ownsRow B 5 1 u (zs.length + j) ((zs ++ le n j).map (.int .u8)))
    (h2 : w1.ownsRow B 5 1 v (zs.length + j + 1) ((zs ++ le n j).map (.int .u8) ++ #[Value.int .u8 (n / 256 ^ j % 256)].toList)) (hg : wr.grownBy w1 u.ownBlock) :
    w1.ownsRow B 5 1 v (zs.length + (j + 1)) ((zs ++ le n (j + 1)).map (.int .u8)) ∧ Below B w w1 := by
  refine ⟨?_, hb.grown hg hB (fun k hk => (hown.lt k hk).1)⟩
  rw [le_snoc, ← List.append_assoc, List.map_append, ← Nat.add_assoc]
  exact h2

theorem put_yes (B : Nat) (A : Option Addr) (c : Nat) (zs : List Int) (n : Int) (k : Nat) (w : World) (hrd : Rd w B A (zs.map (.int .u8))) (hl : zs.length ≤ 65536) (h1 : 1 ≤ k) (h2 : k ≤ 8) (hn : 0 ≤ n) :
    Calls Try.prog 36 #[.slice A zs.length c, .int .u64 n, .int .i64 k] w (Out w.heap.size w 5 (zs.length + k) ((zs ++ le n k).map (.int .u8))) := by
  go_enter Try.func36, Try.ntmps36
  go_wp2_with (first
    | (at_builtin; refine wpl_app app22 rfl _ _ rfl w.heap.size (.slice none 0 0) 0 [] rfl (World.ownsRow_nil _ _ _ _) B A zs.length c _ rfl (by simp) hrd (ints_one _ _) (by unfold maxLen; omega) (by omega) (Nat.le_refl _) ?_; intro v1 w1 hown1 hg1 hat1)
    | (go_at_call 39; refine (may_yes _ _ (by omega) (by omega)).mono ?_; rintro e w' ⟨rfl, rfl⟩))
  have hb1 : Below w.heap.size w w1 := (Below.refl _ _).grown hg1 (Nat.le_refl _) (fun k hk => by simp [Value.ownBlock] at hk)
  simp only [Nat.zero_add, List.nil_append] at hown1
  clear hg1 hat1 hrd
  go_loopw [1, 7, 15] (fun m v i wr => ∃ j : Nat, j ≤ k ∧ i = .int .i64 j ∧ m = .int .u64 (n / 256 ^ j) ∧ wr.ownsRow w.heap.size 5 1 v (zs.length + j) ((zs ++ le n j).map (.int .u8)) ∧ Below w.heap.size w wr) (fun _ _ i _ => k - (intOf i).toNat)
  case atStart => exact ⟨0, Nat.zero_le _, rfl, by simp, by simpa [le] using hown1, hb1⟩
  case round =>
    obtain ⟨j, hj, rfl, rfl, hown, hb⟩ := hrel
    clear hown1 hb1
    by_cases hlt : j < k
    · have H8 := Lib.hid (shr8 n j)
      have h0 : 0 ≤ n / 256 ^ j := Int.ediv_nonneg hn (Int.le_of_lt (Int.pow_pos (by decide)))
      have hsz := hb.size
      go_wp2_with (first | (at_builtin; go_must (refine wpl_app1 app22 rfl _ _ rfl w.heap.size _ (zs.length + j) _ rfl hown rfl rfl (one_int _ _) (by unfold maxLen; omega) (by omega) hsz ?_); intro v2 w2 hown2 hg2 hat2))
      have R := rel_put (w := w) hsz hb hown hown2 hg2
      clear hown2 hg2 hat2 hown hb
      go_wp2
      go_roundw
      case rel => exact ⟨j + 1, by omega, by go_num, by rw [H8.out], R.1, R.2⟩
      case measure => simp [intOf]; omega
    · have : j = k := by omega
      subst this
      go_wp2
      go_ret
      exact ⟨_, rfl, hown, hb⟩

theorem put_no (B : Nat) (A : Option Addr) (c : Nat) (zs : List Int) (n : Int) (k : Int) (w : World) (hrd : Rd w B A (zs.map (.int .u8))) (hl : zs.length ≤ 65536) (h1 : ¬ (1 ≤ k ∧ k ≤ 8)) :
    Calls Try.prog 36 #[.slice A zs.length c, .int .u64 n, .int .i64 k] w (Out w.heap.size w 5 zs.length (zs.map (.int .u8))) := by
  go_enter Try.func36, Try.ntmps36
  go_wp2_with (first
    | (at_builtin; refine wpl_app app22 rfl _ _ rfl w.heap.size (.slice none 0 0) 0 [] rfl (World.ownsRow_nil _ _ _ _) B A zs.length c _ rfl (by simp) hrd (ints_one _ _) (by unfold maxLen; omega) (by omega) (Nat.le_refl _) ?_; intro v1 w1 hown1 hg1 hat1)
    | (go_at_call 39; refine (may_no _ _ h1).mono ?_; rintro e w' ⟨rfl, rfl⟩))
  go_ret
  exact ⟨_, rfl, by simpa using hown1, (Below.refl _ _).grown hg1 (Nat.le_refl _) (fun k hk => by simp [Value.ownBlock] at hk)⟩

theorem num_no (A : Option Addr) (l c : Nat) (at_ k : Int) (w : World) (hl : l ≤ 65536) (h1 : ¬ (1 ≤ k ∧ k ≤ 8 ∧ 0 ≤ at_ ∧ at_ + k ≤ l)) :
    Calls Try.prog 37 #[.slice A l c, .int .i64 at_, .int .i64 k] w fun e w' => e = .returned (.tuple #[.int .u64 0, .bool false]) ∧ w = w' := by
  by_cases hm : 1 ≤ k ∧ k ≤ 8
  · obtain ⟨m1, m2⟩ := hm
    by_cases h0 : at_ < 0
    · clear h1
      go_enter Try.func37, Try.ntmps37
      go_wp2_with (go_at_call 39; refine (may_yes _ _ (by omega) (by omega)).mono ?_; rintro e w' ⟨rfl, rfl⟩)
      go_ret2
      exact ⟨rfl, rfl⟩
    · have hd : ((l : Int) - k < at_) := by omega
      have h0' : 0 ≤ at_ := by omega
      clear h1 h0
      go_enter Try.func37, Try.ntmps37
      go_wp2_with (go_at_call 39; refine (may_yes _ _ (by omega) (by omega)).mono ?_; rintro e w' ⟨rfl, rfl⟩)
      go_ret2
      exact ⟨rfl, rfl⟩
  · clear h1
    go_enter Try.func37, Try.ntmps37
    go_wp2_with (go_at_call 39; refine (may_no _ _ hm).mono ?_; rintro e w' ⟨rfl, rfl⟩)
    go_ret2
    exact ⟨rfl, rfl⟩

/-! The references. -/
theorem rnum_yes (B : Nat) (A : Option Addr) (c : Nat) (zs : List Int) (at_ k : Nat) (w : World) (hrd : Rd w B A (zs.map (.int .u8))) (hz : ∀ z ∈ zs, 0 ≤ z ∧ z < 256) (hl : zs.length ≤ 65536) (h1 : 1 ≤ k) (h2 : k ≤ 8) (h4 : at_ + k ≤ zs.length) :
    Calls Try.prog 38 #[.slice A zs.length c, .int .i64 at_, .int .i64 k] w fun e w' => e = .returned (.tuple #[.int .u64 (num ((zs.drop at_).take k)), .bool true]) ∧ w = w' := by
  obtain ⟨b, off, rfl, hB, hc⟩ := hrd (by intro e; simp at e; subst e; simp at h4; omega)
  have hd : decide ((zs.length : Int) - k < at_) = false := by simp; omega
  have HZ := Lib.hid hz
  have HC := Lib.hid hc
  clear hz hc hrd
  go_enter Try.func38, Try.ntmps38
  go_wp2
  go_loop [8, 9] (fun n i => ∃ j : Nat, j ≤ k ∧ i = .int .i64 ((j : Int) - 1) ∧ n = .int .u64 (num ((zs.drop (at_ + j)).take (k - j)))) (fun _ i => (intOf i + 1).toNat)
  case atStart => exact ⟨k, Nat.le_refl _, rfl, by simp [num]⟩
  case round =>
    obtain ⟨j, hj, rfl, rfl⟩ := hrel
    by_cases h0 : j = 0
    · subst h0
      go_wp2
      go_ret2
      exact ⟨by simp, rfl⟩
    · obtain ⟨i, rfl⟩ : ∃ i, j = i + 1 := ⟨j - 1, by omega⟩
      have hcell := HC.out (at_ + i) (.int .u8 (zs[at_ + i]?.getD 0)) (by rw [List.getElem?_map, List.getElem?_eq_getElem (by omega)]; rfl)
      have hst := Lib.hid (num_step zs (at_ + i) (k - (i + 1)) (by omega))
      have hp := num_part zs (at_ + i + 1) (k - (i + 1)) HZ.out (by omega)
      have hby := byte_of HZ.out (at_ + i)
      go_wp2
      refine ⟨⟨i, by omega, rfl, ?_⟩, by simp [intOf]⟩
      rw [show at_ + (i + 1) = at_ + i + 1 from by omega, or_byte _ _ hp.1 hp.2 hby.1 hby.2, ← hst.out, show k - (i + 1) + 1 = k - i from by omega]
theorem rnum_no (A : Option Addr) (l c : Nat) (at_ k : Int) (w : World) (hl : l ≤ 65536) (h1 : ¬ (1 ≤ k ∧ k ≤ 8 ∧ 0 ≤ at_ ∧ at_ + k ≤ l)) :
    Calls Try.prog 38 #[.slice A l c, .int .i64 at_, .int .i64 k] w fun e w' => e = .returned (.tuple #[.int .u64 0, .bool false]) ∧ w = w' := by
  by_cases m1 : k < 1
  · clear h1
    go_enter Try.func38, Try.ntmps38
    go_wp2
    go_ret2
    exact ⟨rfl, rfl⟩
  · have m1' : 1 ≤ k := by omega
    by_cases m2 : 8 < k
    · clear h1 m1
      go_enter Try.func38, Try.ntmps38
      go_wp2
      go_ret2
      exact ⟨rfl, rfl⟩
    · have m2' : k ≤ 8 := by omega
      by_cases h0 : at_ < 0
      · clear h1 m1 m2
        go_enter Try.func38, Try.ntmps38
        go_wp2
        go_ret2
        exact ⟨rfl, rfl⟩
      · have hd : ((l : Int) - k < at_) := by omega
        have h0' : 0 ≤ at_ := by omega
        clear h1 h0 m1 m2
        go_enter Try.func38, Try.ntmps38
        go_wp2
        go_ret2
        exact ⟨rfl, rfl⟩
theorem and_255 (n : Int) (h : 0 ≤ n) (h2 : n < 18446744073709551616) : bits .and .u64 n 255 = n % 256 := by
  obtain ⟨m, rfl⟩ := Int.eq_ofNat_of_zero_le h
  have := u64_and_nat m 255 (by omega) (by decide)
  rw [show ((255 : Nat) : Int) = 255 from rfl] at this
  rw [this, show m &&& 255 = m % 256 from Nat.and_two_pow_sub_one_eq_mod m 8]
  simp
theorem rput_yes (B : Nat) (A : Option Addr) (c : Nat) (zs : List Int) (n : Int) (k : Nat) (w : World) (hrd : Rd w B A (zs.map (.int .u8))) (hB : B ≤ w.heap.size) (hl : zs.length ≤ 65536) (h1 : 1 ≤ k) (h2 : k ≤ 8) (hn : 0 ≤ n) (hn2 : n < 18446744073709551616) :
    Calls Try.prog 31 #[.slice A zs.length c, .int .u64 n, .int .i64 k] w (Out w.heap.size w 5 (zs.length + k) ((zs ++ le n k).map (.int .u8))) := by
  have HN := Lib.hid hn2
  clear hn2
  go_enter Try.func31, Try.ntmps31
  go_wp2_with (at_builtin; go_must (refine wpl_app app22 rfl _ _ rfl w.heap.size (.slice (some ⟨w.heap.size, 0, none⟩) 0 0) 0 [] rfl (World.ownsRow_lit _ _ _ (Nat.le_refl _) (by decide) (by decide)) B A zs.length c _ rfl (by simp) (hrd.alloc hB _) (ints_one _ _) (by unfold maxLen; omega) (by omega) (by simp) ?_); intro v1 w1 hown1 hg1 hat1)
  have hb1 : Below w.heap.size w w1 := ((Below.refl _ _).alloc (Nat.le_refl _) _).grown hg1 (by simp) (fun k hk => by simp [Value.ownBlock] at hk; omega)
  simp only [Nat.zero_add, List.nil_append] at hown1
  clear hg1 hat1 hrd
  go_loopw [1, 7, 8] (fun m v i wr => ∃ j : Nat, j ≤ k ∧ i = .int .i64 j ∧ m = .int .u64 (n / 256 ^ j) ∧ wr.ownsRow w.heap.size 5 1 v (zs.length + j) ((zs ++ le n j).map (.int .u8)) ∧ Below w.heap.size w wr) (fun _ _ i _ => k - (intOf i).toNat)
  case atStart => exact ⟨0, Nat.zero_le _, rfl, by simp, by simpa [le] using hown1, hb1⟩
  case round =>
    obtain ⟨j, hj, rfl, rfl, hown, hb⟩ := hrel
    clear hown1 hb1
    by_cases hlt : j < k
    · have H8 := Lib.hid (shr8 n j)
      have h0 : 0 ≤ n / 256 ^ j := Int.ediv_nonneg hn (Int.le_of_lt (Int.pow_pos (by decide)))
      have ha := and_255 (n / 256 ^ j) h0 (Int.lt_of_le_of_lt (Int.ediv_le_self _ hn) HN.out)
      have hsz := hb.size
      go_wp2_with (first | (at_builtin; go_must (refine wpl_app1 app22 rfl _ _ rfl w.heap.size _ (zs.length + j) _ rfl hown rfl rfl (one_int _ _) (by unfold maxLen; omega) (by omega) hsz ?_); intro v2 w2 hown2 hg2 hat2))
      have R := rel_put (w := w) hsz hb hown hown2 hg2
      clear hown2 hg2 hat2 hown hb
      go_wp2
      go_roundw
      case rel => exact ⟨j + 1, by omega, by go_num, by rw [H8.out], R.1, R.2⟩
      case measure => simp [intOf]; omega
    · have : j = k := by omega
      subst this
      go_wp2
      go_ret
      exact ⟨_, rfl, hown, hb⟩
theorem rput_no (B : Nat) (A : Option Addr) (c : Nat) (zs : List Int) (n : Int) (k : Int) (w : World) (hrd : Rd w B A (zs.map (.int .u8))) (hB : B ≤ w.heap.size) (hl : zs.length ≤ 65536) (h1 : ¬ (1 ≤ k ∧ k ≤ 8)) :
    Calls Try.prog 31 #[.slice A zs.length c, .int .u64 n, .int .i64 k] w (Out w.heap.size w 5 zs.length (zs.map (.int .u8))) := by
  have fin : ∀ v1 w1, w1.ownsRow w.heap.size 5 1 v1 (0 + zs.length) ([] ++ zs.map (.int .u8)) → (w.alloc (.cells #[] 5)).grownBy w1 (some w.heap.size) → Out w.heap.size w 5 zs.length (zs.map (.int .u8)) (.returned v1) w1 := fun v1 w1 h2 hg => ⟨v1, rfl, by simpa using h2, ((Below.refl _ _).alloc (Nat.le_refl _) _).grown hg (by simp) (fun k hk => by simp at hk; omega)⟩
  have FIN := Lib.hid fin
  clear fin
  by_cases m1 : k < 1
  · clear h1
    go_enter Try.func31, Try.ntmps31
    go_wp2_with (at_builtin; go_must (refine wpl_app app22 rfl _ _ rfl w.heap.size (.slice (some ⟨w.heap.size, 0, none⟩) 0 0) 0 [] rfl (World.ownsRow_lit _ _ _ (Nat.le_refl _) (by decide) (by decide)) B A zs.length c _ rfl (by simp) (hrd.alloc hB _) (ints_one _ _) (by unfold maxLen; omega) (by omega) (by simp) ?_); intro v1 w1 hown1 hg1 hat1)
    go_ret
    exact FIN.out _ _ hown1 hg1
  · have m1' : 1 ≤ k := by omega
    have m2' : 8 < k := by omega
    clear h1 m1
    go_enter Try.func31, Try.ntmps31
    go_wp2_with (at_builtin; go_must (refine wpl_app app22 rfl _ _ rfl w.heap.size (.slice (some ⟨w.heap.size, 0, none⟩) 0 0) 0 [] rfl (World.ownsRow_lit _ _ _ (Nat.le_refl _) (by decide) (by decide)) B A zs.length c _ rfl (by simp) (hrd.alloc hB _) (ints_one _ _) (by unfold maxLen; omega) (by omega) (by simp) ?_); intro v1 w1 hown1 hg1 hat1)
    go_ret
    exact FIN.out _ _ hown1 hg1
theorem out_may (k : Int) (h1 : ¬ (1 ≤ k ∧ k ≤ 8)) : k < 1 ∨ (1 ≤ k ∧ 8 < k) := by omega
end Go.Proofs.Ytmnokoepimhelaa
