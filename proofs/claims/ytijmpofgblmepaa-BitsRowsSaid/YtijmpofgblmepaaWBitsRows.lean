/- The walk of the law BitsRows. -/
import Derived.Test.YtijmpofgblmepaaWBitsAll
set_option linter.unusedVariables false
namespace Go.Proofs.Ytijmpofgblmepaa
open Go.RowKit Go.ChangeShapes

/-- Numbers one behind the other, k bytes each. -/
def rows (l : List Int) (k : Nat) : List Int := l.flatMap (fun n => le n k)
theorem rows_length (l : List Int) (k : Nat) : (rows l k).length = l.length * k := by
  induction l with
  | nil => simp [rows]
  | cons x l ih =>
    have : rows (x :: l) k = le x k ++ rows l k := rfl
    rw [this, List.length_append, ih, le_length, List.length_cons, Nat.add_mul]; omega
theorem rows_byte (l : List Int) (k : Nat) : ∀ b ∈ rows l k, 0 ≤ b ∧ b < 256 := by
  intro b hb
  obtain ⟨n, _, h⟩ := List.mem_flatMap.1 hb
  exact le_byte k n b h
theorem rows_snoc (l : List Int) (j k : Nat) (hj : j < l.length) : rows (l.take (j + 1)) k = rows (l.take j) k ++ le l[j] k := by
  unfold rows
  rw [List.take_succ_eq_append_getElem hj, List.flatMap_append]
  simp
theorem rows_at (l : List Int) (k j : Nat) (hj : j < l.length) : ((rows l k).drop (j * k)).take k = le l[j] k := by
  induction l generalizing j with
  | nil => simp at hj
  | cons x l ih =>
    have e : rows (x :: l) k = le x k ++ rows l k := rfl
    rw [e]
    cases j with
    | zero => simp only [Nat.zero_mul, List.drop_zero, List.getElem_cons_zero]; rw [List.take_left' (le_length k x)]
    | succ j =>
      rw [Nat.add_mul, Nat.one_mul, Nat.add_comm, ← List.drop_drop, List.drop_left' (le_length k x)]
      simpa using ih j (by simpa using hj)

theorem wf_u64 {z : Int} (h : (Lit.int .u64 z).wf = true) : 0 ≤ z ∧ z < 18446744073709551616 := by have := bounds_u64 h; omega

theorem num_row (B : Nat) (A : Option Addr) (c m : Nat) (l : List Int) (k j : Nat) (w : World) (hm : m = l.length * k) (hrd : Rd w B A ((rows l k).map (.int .u8))) (hl : l.length ≤ 40) (h1 : 1 ≤ k) (h2 : k ≤ 8) (hj : j < l.length) (hn : 0 ≤ l[j]) :
    Calls Try.prog 11 #[.slice A m c, .int .i64 ((j : Int) * (k : Int)), .int .i64 k] w fun e w' => e = .returned (.tuple #[.int .u64 (l[j] % pw k), .bool true]) ∧ w = w' := by
  have hp : l.length * k ≤ 40 * 8 := Nat.mul_le_mul hl h2
  have hq : j * k + k ≤ l.length * k := by have : (j + 1) * k ≤ l.length * k := Nat.mul_le_mul_right _ hj
                                           rw [Nat.add_mul, Nat.one_mul] at this; exact this
  have N := num_yes B A c (rows l k) (j * k) k w hrd (rows_byte l k) (by rw [rows_length]; omega) h1 h2 (by rw [rows_length]; omega)
  rw [rows_length, rows_at l k j hj, num_le k _ hn, Int.natCast_mul, ← hm] at N
  exact N
theorem num_end (A : Option Addr) (c m : Nat) (l : List Int) (k : Nat) (w : World) (hm : m = l.length * k) (hl : l.length ≤ 40) (h1 : 1 ≤ k) (h2 : k ≤ 8) :
    Calls Try.prog 11 #[.slice A m c, .int .i64 ((l.length : Int) * (k : Int)), .int .i64 k] w fun e w' => e = .returned (.tuple #[.int .u64 0, .bool false]) ∧ w = w' := by
  have hp : l.length * k ≤ 40 * 8 := Nat.mul_le_mul hl h2
  have e : ((l.length : Int) * (k : Int)) = ((l.length * k : Nat) : Int) := by rw [Int.natCast_mul]
  exact num_no A m c _ k w (by omega) (by rw [e]; omega)

theorem bitsRows_walk (w : World) (A0 : Option Addr) (c0 : Nat) (z0 : List Int) (rd0 : Rd w w.heap.size A0 (z0.map (.int .u64))) (l0 : z0.length ≤ c0) (m0 : c0 ≤ maxLen) (w0 : ∀ z ∈ z0, (Lit.int .u64 z).wf = true)
    (a1 : Int) (w1 : (Lit.int .i64 a1).wf = true) :
    Calls Try.prog 5 #[.slice A0 z0.length c0, .int .i64 a1] w fun e w' => e = .returned (.bool true) ∧ Below w.heap.size w w' := by
  unfold maxLen at m0
  by_cases hl : 40 < z0.length
  · clear rd0 w0 w1
    go_enter Try.func5, Try.ntmps5
    go_wp2_with (go_at_call 10; refine (awake _).mono ?_; rintro e w' ⟨rfl, hb⟩)
    go_ret
    exact ⟨rfl, hb⟩
  have hl' : z0.length ≤ 40 := by omega
  by_cases hm : 1 ≤ a1 ∧ a1 ≤ 8
  · obtain ⟨k1, k2⟩ := hm
    obtain ⟨k, rfl⟩ := Int.eq_ofNat_of_zero_le (show 0 ≤ a1 by omega)
    have HD := Lib.hid rd0
    have HW := Lib.hid w0
    clear w0 w1 rd0 hl
    go_enter Try.func5, Try.ntmps5
    go_wp2_with fail
    go_loopw [5, 6] (fun v i wr => ∃ j : Nat, j ≤ z0.length ∧ i = .int .i64 j ∧ wr.ownsRow w.heap.size 5 1 v (rows (z0.take j) k).length ((rows (z0.take j) k).map (.int .u8)) ∧ Below w.heap.size w wr) (fun _ i _ => z0.length - (intOf i).toNat)
    case atStart => exact ⟨0, Nat.zero_le _, rfl, World.ownsRow_nil _ _ _ _, Below.refl _ _⟩
    case round =>
      obtain ⟨j, hj, rfl, hown, hb⟩ := hrel
      obtain ⟨A1, c1, rfl, l1, m1, rd1, _⟩ := Rd.of_own hown
      by_cases hlt : j < z0.length
      · obtain ⟨b, off, rfl, hbl, _, hcell⟩ := (HD.out.below hb).at_ (k := j) (by simpa using hlt)
        simp only [List.getElem_map] at hcell
        have hwf := wf_u64 (HW.out z0[j] (List.getElem_mem hlt))
        have hpl : (rows (z0.take j) k).length ≤ 40 * 8 := by
          rw [rows_length]
          exact Nat.mul_le_mul (by simp; omega) (by omega)
        have HP := Lib.hid (put_yes _ A1 c1 (rows (z0.take j) k) z0[j] k wr rd1 (by omega) (by omega) (by omega) hwf.1)
        have HB := Lib.hid hb
        have HR := Lib.hid (rows_snoc z0 j k hlt)
        clear hown hb rd1 hpl
        go_wp2_with fail
        refine HP.out.mono ?_
        rintro e w2 ⟨v2, rfl, own2, hb2⟩
        go_wp2_with fail
        go_roundw
        case rel => exact ⟨j + 1, by omega, by go_num, by rw [HR.out, List.length_append, le_length]; exact own_mono own2 HB.out.size, HB.out.trans (hb2.mono HB.out.size)⟩
        case measure => simp [intOf]; omega
      · have : j = z0.length := by omega
        subst this
        rw [List.take_length] at rd1
        obtain ⟨m, hm⟩ : ∃ m, m = (rows (z0.take z0.length) k).length := ⟨_, rfl⟩
        rw [← hm]
        rw [List.take_length] at hm
        have hml : m = z0.length * k := by rw [hm, rows_length]
        have hp : z0.length * k ≤ 40 * 8 := Nat.mul_le_mul hl' (by omega)
        have q1 : 0 ≤ (z0.length : Int) * (k : Int) := by rw [← Int.natCast_mul]; omega
        have q2 : (z0.length : Int) * (k : Int) ≤ 320 := by rw [← Int.natCast_mul]; omega
        have q3 : ((m : Int) != (z0.length : Int) * (k : Int)) = false := by rw [hml, Int.natCast_mul]; simp
        have HM := Lib.hid hml
        have HR := Lib.hid rd1
        have HB := Lib.hid hb
        clear hml hm hp hown rd1 hb l1
        go_wp2_with fail
        go_loop [7] (fun i => ∃ j : Nat, j ≤ z0.length ∧ i = .int .i64 j) (fun i => z0.length - (intOf i).toNat)
        case atStart => exact ⟨0, Nat.zero_le _, rfl⟩
        case round =>
          obtain ⟨j, hj, rfl⟩ := hrel
          by_cases hlt : j < z0.length
          · obtain ⟨b, off, rfl, hbl, _, hcell⟩ := (HD.out.below HB.out).at_ (k := j) (by simpa using hlt)
            simp only [List.getElem_map] at hcell
            have hwf := wf_u64 (HW.out z0[j] (List.getElem_mem hlt))
            have hq : j * k ≤ z0.length * k := Nat.mul_le_mul_right _ hj
            have r1 : 0 ≤ (j : Int) * (k : Int) := by rw [← Int.natCast_mul]; omega
            have r2 : (j : Int) * (k : Int) ≤ 320 := by rw [← Int.natCast_mul] at *; omega
            have HN := Lib.hid (num_row _ A1 c1 m z0 k j wr HM.out HR.out hl' (by omega) (by omega) hlt hwf.1)
            have HL := Lib.hid (rlow z0[j] k wr (by omega) (by omega))
            clear hq
            go_wp2_with (first
              | (go_at_call 11; refine HN.out.mono ?_; rintro e w' ⟨rfl, rfl⟩)
              | (go_at_call 24; refine HL.out.mono ?_; rintro e w' ⟨rfl, rfl⟩))
            go_round
            case rel => exact ⟨j + 1, by omega, by go_num⟩
            case measure => simp [intOf]; omega
          · have : j = z0.length := by omega
            subst this
            have HN := Lib.hid (num_end A1 c1 m z0 k wr HM.out hl' (by omega) (by omega))
            go_wp2_with (first
              | (go_at_call 11; refine HN.out.mono ?_; rintro e w' ⟨rfl, rfl⟩)
              | (go_at_call 10; refine (awake _).mono ?_; rintro e w' ⟨rfl, hb⟩))
            go_ret
            exact ⟨rfl, HB.out.trans (hb.mono HB.out.size)⟩
  · rcases out_may a1 hm with m | ⟨m1, m2⟩ <;> clear hm rd0 w0 w1 hl
    all_goals
      go_enter Try.func5, Try.ntmps5
      go_wp2_with (go_at_call 10; refine (awake _).mono ?_; rintro e w' ⟨rfl, hb⟩)
      go_ret
      exact ⟨rfl, hb⟩
end Go.Proofs.Ytijmpofgblmepaa
