
/- Plain arithmetic of layer 1 (bits): numbers as bytes, turns. Nothing of a program. -/
import Derived.WalkKit
import Derived.Laws.BitsAllLaws
namespace Go.Proofs.Ytpfbagkjhchojaa
open Go.RowKit

/-- The w lowest bytes of n, the lowest first. -/
def le (n : Int) : Nat → List Int
  | 0 => []
  | w + 1 => n % 256 :: le (n / 256) w
/-- The number of bytes, the lowest first. -/
def num : List Int → Int
  | [] => 0
  | b :: l => b + 256 * num l

theorem le_length (w : Nat) : ∀ n, (le n w).length = w := by
  induction w with
  | zero => intro n; rfl
  | succ w ih => intro n; simp [le, ih]
theorem le_byte (w : Nat) : ∀ n, ∀ b ∈ le n w, 0 ≤ b ∧ b < 256 := by
  induction w with
  | zero => intro n b hb; simp [le] at hb
  | succ w ih =>
    intro n b hb
    simp only [le, List.mem_cons] at hb
    rcases hb with rfl | hb
    · omega
    · exact ih _ b hb
theorem ediv_pow (n : Int) (w : Nat) : n / 256 / 256 ^ w = n / 256 ^ (w + 1) := by
  rw [Int.pow_succ, Int.mul_comm, Int.ediv_ediv_of_nonneg (by decide)]
theorem le_snoc (w : Nat) : ∀ n, le n (w + 1) = le n w ++ [n / 256 ^ w % 256] := by
  induction w with
  | zero => intro n; simp [le]
  | succ w ih =>
    intro n
    rw [le, ih (n / 256), le, List.cons_append, ediv_pow]

theorem num_append (a b : List Int) : num (a ++ b) = num a + 256 ^ a.length * num b := by
  induction a with
  | nil => simp [num]
  | cons x a ih =>
    simp only [List.cons_append, num, ih, List.length_cons, Int.pow_succ]
    rw [Int.mul_add, ← Int.mul_assoc, Int.mul_comm 256 (256 ^ a.length), Int.add_assoc]
theorem num_bd (l : List Int) (h : ∀ b ∈ l, 0 ≤ b ∧ b < 256) : 0 ≤ num l ∧ num l < 256 ^ l.length := by
  induction l with
  | nil => simp [num]
  | cons x l ih =>
    have hx := h x (by simp)
    have hl := ih (fun b hb => h b (by simp [hb]))
    simp only [num, List.length_cons, Int.pow_succ]
    omega
theorem emod_256 (n : Int) (w : Nat) (h : 0 ≤ n) : n % 256 + 256 * (n / 256 % 256 ^ w) = n % 256 ^ (w + 1) := by
  obtain ⟨m, rfl⟩ := Int.eq_ofNat_of_zero_le h
  have e : (m : Int) % 256 ^ (w + 1) = ((m % (256 * 256 ^ w) : Nat) : Int) := by
    rw [Int.pow_succ, Int.mul_comm]; simp only [Int.natCast_mul, Int.natCast_pow, Int.natCast_emod, Int.cast_ofNat_Int]
  rw [e, Nat.mod_mul]
  simp only [Int.natCast_add, Int.natCast_mul, Int.natCast_pow, Int.natCast_emod, Int.natCast_ediv, Int.cast_ofNat_Int]
theorem num_le (w : Nat) : ∀ n, 0 ≤ n → num (le n w) = n % 256 ^ w := by
  induction w with
  | zero => intro n _; simp [le, num]
  | succ w ih =>
    intro n h
    simp only [le, num]
    rw [ih (n / 256) (by omega), emod_256 n w h]

/-- The width as a natural number from 1 to 8. -/
theorem width_cases (k : Int) (h1 : 1 ≤ k) (h2 : k ≤ 8) : k = 1 ∨ k = 2 ∨ k = 3 ∨ k = 4 ∨ k = 5 ∨ k = 6 ∨ k = 7 ∨ k = 8 := by omega

/-- All numbers of k bytes: 256 to the k. -/
def pw (k : Int) : Int := 256 ^ k.toNat
theorem pw_vals : pw 1 = 256 ∧ pw 2 = 65536 ∧ pw 3 = 16777216 ∧ pw 4 = 4294967296 ∧ pw 5 = 1099511627776 ∧ pw 6 = 281474976710656 ∧ pw 7 = 72057594037927936 ∧ pw 8 = 18446744073709551616 := by decide
theorem pw_pos (k : Int) : 0 < pw k := Int.pow_pos (by decide)

theorem lowu_eq (n k : Int) (h1 : 1 ≤ k) (h2 : k ≤ 8) : IntKind.u64.wrap (n * 2 ^ (64 - 8 * k).toNat) / 2 ^ (64 - 8 * k).toNat = n % pw k := by
  obtain ⟨p1, p2, p3, p4, p5, p6, p7, p8⟩ := pw_vals
  rw [IntKind.wrap_u64]
  rcases width_cases k h1 h2 with rfl | rfl | rfl | rfl | rfl | rfl | rfl | rfl
  · rw [p1]; simp; omega
  · rw [p2]; simp; omega
  · rw [p3]; simp; omega
  · rw [p4]; simp; omega
  · rw [p5]; simp; omega
  · rw [p6]; simp; omega
  · rw [p7]; simp; omega
  · rw [p8]; simp
theorem lowi_eq (n k : Int) (h1 : 1 ≤ k) (h2 : k ≤ 8) : IntKind.i64.wrap (n * 2 ^ (64 - 8 * k).toNat) / 2 ^ (64 - 8 * k).toNat = (n + pw k / 2) % pw k - pw k / 2 := by
  obtain ⟨p1, p2, p3, p4, p5, p6, p7, p8⟩ := pw_vals
  rw [IntKind.wrap_i64]
  rcases width_cases k h1 h2 with rfl | rfl | rfl | rfl | rfl | rfl | rfl | rfl
  · rw [p1]; simp; omega
  · rw [p2]; simp; omega
  · rw [p3]; simp; omega
  · rw [p4]; simp; omega
  · rw [p5]; simp; omega
  · rw [p6]; simp; omega
  · rw [p7]; simp; omega
  · rw [p8]; simp

/-- What n is in two's complement of k bytes. -/
def sig (n k : Int) : Int := (n + pw k / 2) % pw k - pw k / 2

/-- n turned by r bits. -/
def rot (n : Int) (r : Int) : Int := n * 2 ^ r.toNat % 18446744073709551616 + n / 2 ^ (64 - r).toNat

theorem rot_or (n r : Int) (h0 : 0 ≤ n) (h1 : n < 18446744073709551616) (h2 : 0 ≤ r) (h3 : r < 64) : bits .or .u64 (IntKind.u64.wrap (n * 2 ^ r.toNat)) (n / 2 ^ (64 - r).toNat) = rot n r := by
  obtain ⟨m, rfl⟩ := Int.eq_ofNat_of_zero_le h0
  obtain ⟨s, rfl⟩ := Int.eq_ofNat_of_zero_le h2
  have hs : s < 64 := by omega
  have e1 : ((64 : Int) - (s : Int)).toNat = 64 - s := by omega
  unfold rot
  rw [IntKind.wrap_u64, e1, Int.toNat_natCast]
  have e2 : (m : Int) * 2 ^ s % 18446744073709551616 = ((m * 2 ^ s % 2 ^ 64 : Nat) : Int) := by
    rw [show (2 : Nat) ^ 64 = 18446744073709551616 from by decide]
    simp only [Int.natCast_mul, Int.natCast_pow, Int.natCast_emod, Int.cast_ofNat_Int]
  have e3 : (m : Int) / 2 ^ (64 - s) = ((m / 2 ^ (64 - s) : Nat) : Int) := by simp only [Int.natCast_pow, Int.natCast_ediv, Int.cast_ofNat_Int]
  have hm : m < 2 ^ 64 := by omega
  rw [e2, e3]
  have l1 : m * 2 ^ s % 2 ^ 64 < 2 ^ 64 := Nat.mod_lt _ (by decide)
  have l2 : m / 2 ^ (64 - s) < 2 ^ s := by
    rw [Nat.div_lt_iff_lt_mul (Nat.two_pow_pos _), ← Nat.pow_add]
    rw [show s + (64 - s) = 64 from by omega]
    exact hm
  have l3 : 2 ^ s ≤ 2 ^ 64 := Nat.pow_le_pow_right (by decide) (by omega)
  rw [u64_or_nat _ _ (by simpa using l1) (by have : (18446744073709551616 : Nat) = 2 ^ 64 := by decide
                                             omega)]
  have e4 : m * 2 ^ s % 2 ^ 64 = 2 ^ s * (m % 2 ^ (64 - s)) := by
    rw [Nat.mul_comm, show (2 : Nat) ^ 64 = 2 ^ s * 2 ^ (64 - s) from by rw [← Nat.pow_add]; congr 1; omega, Nat.mul_mod_mul_left]
  rw [e4, ← Nat.two_pow_add_eq_or_of_lt l2]
  exact Int.natCast_add _ _

theorem and_63 (n : Int) : bits .and .i64 n 63 = n % 64 := by
  have h : ∀ x : BitVec 64, (x &&& (BitVec.ofInt 64 63)).toNat = x.toNat % 64 := by
    intro x
    rw [BitVec.toNat_and]
    show x.toNat &&& 63 = _
    exact Nat.and_two_pow_sub_one_eq_mod x.toNat 6
  show IntKind.i64.wrap ((BitVec.ofInt 64 n &&& BitVec.ofInt 64 63).toNat : Int) = _
  rw [h, IntKind.wrap_i64, BitVec.toNat_ofInt]
  omega

/-- A byte more from below. -/
theorem or_byte (a b : Int) (h0 : 0 ≤ a) (h1 : a < 72057594037927936) (h2 : 0 ≤ b) (h3 : b < 256) : bits .or .u64 (IntKind.u64.wrap (a * 256)) b = b + 256 * a := by
  rw [IntKind.wrap_u64, Int.emod_eq_of_lt (by omega) (by omega)]
  obtain ⟨x, rfl⟩ := Int.eq_ofNat_of_zero_le h0
  obtain ⟨y, rfl⟩ := Int.eq_ofNat_of_zero_le h2
  have e : (x : Int) * 256 = ((2 ^ 8 * x : Nat) : Int) := by omega
  rw [e, u64_or_nat _ _ (by omega) (by omega), ← Nat.two_pow_add_eq_or_of_lt (by omega)]
  omega

theorem tm_pos {a : Int} (b : Int) (h : 0 ≤ a) : a.tmod b = a % b := Int.tmod_eq_emod_of_nonneg h
theorem tm_neg {a : Int} (b : Int) (h : a < 0) : a.tmod b = -((-a) % b) := by
  have : a = -(-a) := by omega
  rw [this, Int.neg_tmod, tm_pos b (by omega)]
  simp
theorem pow_mono {a b : Nat} (h : a ≤ b) : (256 : Int) ^ a ≤ 256 ^ b := by
  have e : ∀ n : Nat, (256 : Int) ^ n = ((256 ^ n : Nat) : Int) := fun n => by simp only [Int.natCast_pow, Int.cast_ofNat_Int]
  rw [e, e]
  exact Int.ofNat_le.2 (Nat.pow_le_pow_right (by decide) h)

theorem num_step (l : List Int) (a j : Nat) (ha : a < l.length) : num ((l.drop a).take (j + 1)) = l[a]?.getD 0 + 256 * num ((l.drop (a + 1)).take j) := by
  rw [List.drop_eq_getElem_cons ha, List.take_succ_cons, num, List.getElem?_eq_getElem ha]; rfl
theorem num_part (l : List Int) (a j : Nat) (hb : ∀ z ∈ l, 0 ≤ z ∧ z < 256) (hj : j ≤ 7) : 0 ≤ num ((l.drop a).take j) ∧ num ((l.drop a).take j) < 72057594037927936 := by
  have h := num_bd ((l.drop a).take j) (fun b hm => hb b (List.mem_of_mem_drop (List.mem_of_mem_take hm)))
  refine ⟨h.1, Int.lt_of_lt_of_le h.2 ?_⟩
  have : ((l.drop a).take j).length ≤ 7 := by simp; omega
  have h2 := pow_mono this
  simpa using h2
theorem byte_of {l : List Int} (hb : ∀ z ∈ l, 0 ≤ z ∧ z < 256) (i : Nat) : 0 ≤ l[i]?.getD 0 ∧ l[i]?.getD 0 < 256 := by
  rcases Nat.lt_or_ge i l.length with h | h
  · rw [List.getElem?_eq_getElem h]; exact hb _ (List.getElem_mem h)
  · rw [List.getElem?_eq_none h]; decide
theorem sig_wrap (n k : Int) (h1 : 1 ≤ k) (h2 : k ≤ 8) : sig (IntKind.i64.wrap n) k = sig n k := by
  obtain ⟨p1, p2, p3, p4, p5, p6, p7, p8⟩ := pw_vals
  unfold sig
  rw [IntKind.wrap_i64]
  rcases width_cases k h1 h2 with rfl | rfl | rfl | rfl | rfl | rfl | rfl | rfl
  · rw [p1]; omega
  · rw [p2]; omega
  · rw [p3]; omega
  · rw [p4]; omega
  · rw [p5]; omega
  · rw [p6]; omega
  · rw [p7]; omega
  · rw [p8]; omega
theorem wrapu_mod (n k : Int) (h1 : 1 ≤ k) (h2 : k ≤ 8) : IntKind.u64.wrap n % pw k = n % pw k := by
  obtain ⟨p1, p2, p3, p4, p5, p6, p7, p8⟩ := pw_vals
  rw [IntKind.wrap_u64]
  rcases width_cases k h1 h2 with rfl | rfl | rfl | rfl | rfl | rfl | rfl | rfl
  · rw [p1]; omega
  · rw [p2]; omega
  · rw [p3]; omega
  · rw [p4]; omega
  · rw [p5]; omega
  · rw [p6]; omega
  · rw [p7]; omega
  · rw [p8]; omega
theorem sig_mod (n k : Int) (h1 : 1 ≤ k) (h2 : k ≤ 8) : sig (n % pw k) k = sig n k := by
  obtain ⟨p1, p2, p3, p4, p5, p6, p7, p8⟩ := pw_vals
  unfold sig
  rcases width_cases k h1 h2 with rfl | rfl | rfl | rfl | rfl | rfl | rfl | rfl
  · rw [p1]; omega
  · rw [p2]; omega
  · rw [p3]; omega
  · rw [p4]; omega
  · rw [p5]; omega
  · rw [p6]; omega
  · rw [p7]; omega
  · rw [p8]; omega
theorem lowiu_eq (n k : Int) (h1 : 1 ≤ k) (h2 : k ≤ 8) : IntKind.i64.wrap (IntKind.u64.wrap (n * 2 ^ (64 - 8 * k).toNat)) / 2 ^ (64 - 8 * k).toNat = sig n k := by
  obtain ⟨p1, p2, p3, p4, p5, p6, p7, p8⟩ := pw_vals
  unfold sig
  rw [IntKind.wrap_i64, IntKind.wrap_u64]
  rcases width_cases k h1 h2 with rfl | rfl | rfl | rfl | rfl | rfl | rfl | rfl
  · rw [p1]; simp; omega
  · rw [p2]; simp; omega
  · rw [p3]; simp; omega
  · rw [p4]; simp; omega
  · rw [p5]; simp; omega
  · rw [p6]; simp; omega
  · rw [p7]; simp; omega
  · rw [p8]; simp
theorem fits_8 (n : Int) (h3 : 0 ≤ n) (h4 : n < 18446744073709551616) : (n % pw 8 == n) = true := by
  rw [pw_vals.2.2.2.2.2.2.2]; simp; omega
theorem fits_eq (n k : Int) (h1 : 1 ≤ k) (h2 : k ≤ 8) : (n / 2 ^ (8 * k).toNat == 0) = (n % pw k == n) := by
  obtain ⟨p1, p2, p3, p4, p5, p6, p7, p8⟩ := pw_vals
  rcases width_cases k h1 h2 with rfl | rfl | rfl | rfl | rfl | rfl | rfl | rfl
  · rw [p1]; rw [Bool.eq_iff_iff]; simp; omega
  · rw [p2]; rw [Bool.eq_iff_iff]; simp; omega
  · rw [p3]; rw [Bool.eq_iff_iff]; simp; omega
  · rw [p4]; rw [Bool.eq_iff_iff]; simp; omega
  · rw [p5]; rw [Bool.eq_iff_iff]; simp; omega
  · rw [p6]; rw [Bool.eq_iff_iff]; simp; omega
  · rw [p7]; rw [Bool.eq_iff_iff]; simp; omega
  · rw [p8]; rw [Bool.eq_iff_iff]; simp; omega
end Go.Proofs.Ytpfbagkjhchojaa
