/- Plain arithmetic of turns: bits one by one. -/
import Derived.Test.YtijmpofgblmepaaBits
namespace Go.Proofs.Ytijmpofgblmepaa
open Go.RowKit

theorem rot_bv (m s : Nat) (hm : m < 2 ^ 64) (hs : s < 64) : rot (m : Int) (s : Int) = (((BitVec.ofNat 64 m).rotateLeft s).toNat : Int) := by
  rw [BitVec.toNat_rotateLeft, BitVec.toNat_ofNat, Nat.mod_eq_of_lt hm, Nat.mod_eq_of_lt hs]
  have h := rot_or (m : Int) (s : Int) (by omega) (by omega) (by omega) (by omega)
  rw [← h, IntKind.wrap_u64, Int.toNat_natCast, show ((64 : Int) - (s : Int)).toNat = 64 - s from by omega]
  have e2 : (m : Int) * 2 ^ s % 18446744073709551616 = ((m * 2 ^ s % 2 ^ 64 : Nat) : Int) := by
    rw [show (2 : Nat) ^ 64 = 18446744073709551616 from by decide]
    simp only [Int.natCast_mul, Int.natCast_pow, Int.natCast_emod, Int.cast_ofNat_Int]
  have e3 : (m : Int) / 2 ^ (64 - s) = ((m / 2 ^ (64 - s) : Nat) : Int) := by simp only [Int.natCast_pow, Int.natCast_ediv, Int.cast_ofNat_Int]
  have l1 : m * 2 ^ s % 2 ^ 64 < 2 ^ 64 := Nat.mod_lt _ (by decide)
  have l2 : m / 2 ^ (64 - s) < 2 ^ 64 := Nat.lt_of_le_of_lt (Nat.div_le_self _ _) hm
  rw [e2, e3, u64_or_nat _ _ (by simpa using l1) (by simpa using l2), Nat.shiftLeft_eq, Nat.shiftRight_eq_div_pow]

theorem rot_bit (x : BitVec 64) (s i : Nat) (hs : s < 64) (hi : i < 64) : (x.rotateLeft s).getLsbD i = x.getLsbD ((i + (64 - s)) % 64) := by
  rw [BitVec.getLsbD_rotateLeft, Nat.mod_eq_of_lt hs]
  by_cases h : i < s
  · simp only [h, decide_true, cond_true]
    rw [Nat.mod_eq_of_lt (by omega), Nat.add_comm]
  · simp only [h, decide_false, cond_false, hi, decide_true, Bool.true_and]
    congr 1
    omega
theorem rot_rot_bv (x : BitVec 64) (s t u : Nat) (hs : s < 64) (ht : t < 64) (hu : u < 64) (h : (s + t) % 64 = u) : (x.rotateLeft s).rotateLeft t = x.rotateLeft u := by
  apply BitVec.eq_of_getLsbD_eq
  intro i hi
  rw [rot_bit _ t i ht hi, rot_bit _ s _ hs (Nat.mod_lt _ (by decide)), rot_bit _ u i hu hi]
  congr 1
  omega
theorem rot_0_bv (x : BitVec 64) : x.rotateLeft 0 = x := by
  apply BitVec.eq_of_getLsbD_eq
  intro i hi
  rw [rot_bit _ 0 i (by decide) hi]
  congr 1
  omega

theorem rot_range (n r : Int) (h0 : 0 ≤ n) (h1 : n < 18446744073709551616) (h2 : 0 ≤ r) (h3 : r < 64) : 0 ≤ rot n r ∧ rot n r < 18446744073709551616 := by
  obtain ⟨m, rfl⟩ := Int.eq_ofNat_of_zero_le h0
  obtain ⟨s, rfl⟩ := Int.eq_ofNat_of_zero_le h2
  rw [rot_bv m s (by omega) (by omega)]
  have := ((BitVec.ofNat 64 m).rotateLeft s).isLt
  omega
theorem rot_rot (n r s u : Int) (h0 : 0 ≤ n) (h1 : n < 18446744073709551616) (h2 : 0 ≤ r) (h3 : r < 64) (h4 : 0 ≤ s) (h5 : s < 64) (h6 : 0 ≤ u) (h7 : u < 64) (h : (r + s) % 64 = u) : rot (rot n r) s = rot n u := by
  obtain ⟨m, rfl⟩ := Int.eq_ofNat_of_zero_le h0
  obtain ⟨r, rfl⟩ := Int.eq_ofNat_of_zero_le h2
  obtain ⟨s, rfl⟩ := Int.eq_ofNat_of_zero_le h4
  obtain ⟨u, rfl⟩ := Int.eq_ofNat_of_zero_le h6
  rw [rot_bv m r (by omega) (by omega), rot_bv _ s (BitVec.isLt _) (by omega), rot_bv m u (by omega) (by omega), BitVec.ofNat_toNat]
  rw [show BitVec.setWidth 64 ((BitVec.ofNat 64 m).rotateLeft r) = (BitVec.ofNat 64 m).rotateLeft r from BitVec.setWidth_eq _]
  rw [rot_rot_bv _ r s u (by omega) (by omega) (by omega) (by omega)]
theorem rot_none (n : Int) (h0 : 0 ≤ n) (h1 : n < 18446744073709551616) : rot n 0 = n := by
  obtain ⟨m, rfl⟩ := Int.eq_ofNat_of_zero_le h0
  have := rot_bv m 0 (by omega) (by decide)
  rw [rot_0_bv, BitVec.toNat_ofNat, Nat.mod_eq_of_lt (by omega)] at this
  exact this

/-- Bit i of n. -/
def nbit (n : Int) (i : Nat) : Int := n / 2 ^ i % 2
theorem nbit_01 (n : Int) (i : Nat) : 0 ≤ nbit n i ∧ nbit n i ≤ 1 := by unfold nbit; omega
theorem nbit_and (n : Int) (i : Nat) (h0 : 0 ≤ n) (h1 : n < 18446744073709551616) : bits .and .u64 (n / 2 ^ i) 1 = nbit n i := by
  obtain ⟨m, rfl⟩ := Int.eq_ofNat_of_zero_le h0
  have e3 : (m : Int) / 2 ^ i = ((m / 2 ^ i : Nat) : Int) := by simp only [Int.natCast_pow, Int.natCast_ediv, Int.cast_ofNat_Int]
  have l2 : m / 2 ^ i < 2 ^ 64 := Nat.lt_of_le_of_lt (Nat.div_le_self _ _) (by omega)
  have := u64_and_nat (m / 2 ^ i) 1 (by simpa using l2) (by decide)
  unfold nbit
  rw [e3, show (1 : Int) = ((1 : Nat) : Int) from rfl, this, Nat.and_one_is_mod]
  omega
theorem nbit_bv (m i : Nat) (hm : m < 2 ^ 64) : nbit (m : Int) i = (if (BitVec.ofNat 64 m).getLsbD i then 1 else 0) := by
  rw [← BitVec.testBit_toNat, BitVec.toNat_ofNat, Nat.mod_eq_of_lt hm, Nat.testBit_eq_decide_div_mod_eq]
  unfold nbit
  have e3 : (m : Int) / 2 ^ i = ((m / 2 ^ i : Nat) : Int) := by simp only [Int.natCast_pow, Int.natCast_ediv, Int.cast_ofNat_Int]
  rw [e3]
  by_cases h : m / 2 ^ i % 2 = 1
  · simp only [h, decide_true, if_true]; omega
  · simp only [h, decide_false]; simp; omega
theorem nbit_rot (n r : Int) (i : Nat) (h0 : 0 ≤ n) (h1 : n < 18446744073709551616) (h2 : 0 ≤ r) (h3 : r < 64) (hi : i < 64) : nbit (rot n r) i = nbit n ((i + (64 - r.toNat)) % 64) := by
  obtain ⟨m, rfl⟩ := Int.eq_ofNat_of_zero_le h0
  obtain ⟨r, rfl⟩ := Int.eq_ofNat_of_zero_le h2
  rw [rot_bv m r (by omega) (by omega), nbit_bv _ _ (BitVec.isLt _), nbit_bv m _ (by omega), BitVec.ofNat_toNat]
  rw [show BitVec.setWidth 64 ((BitVec.ofNat 64 m).rotateLeft r) = (BitVec.ofNat 64 m).rotateLeft r from BitVec.setWidth_eq _]
  rw [rot_bit _ r i (by omega) hi, Int.toNat_natCast]

/-- The sum of the first k. -/
def sumTo (f : Nat → Int) : Nat → Int
  | 0 => 0
  | k + 1 => sumTo f k + f k
theorem sumTo_add (f : Nat → Int) (a b : Nat) : sumTo f (a + b) = sumTo f a + sumTo (fun j => f (a + j)) b := by
  induction b with
  | zero => simp [sumTo]
  | succ b ih => rw [← Nat.add_assoc, sumTo, ih, sumTo, Int.add_assoc]
theorem sumTo_congr (f g : Nat → Int) (k : Nat) (h : ∀ j, j < k → f j = g j) : sumTo f k = sumTo g k := by
  induction k with
  | zero => rfl
  | succ k ih => rw [sumTo, sumTo, ih (fun j hj => h j (by omega)), h k (by omega)]
theorem sumTo_turn (f : Nat → Int) (n r : Nat) (hr : r < n) : sumTo (fun j => f ((j + (n - r)) % n)) n = sumTo f n := by
  have e1 : n = r + (n - r) := by omega
  have e2 : n = (n - r) + r := by omega
  have a := sumTo_add (fun j => f ((j + (n - r)) % n)) r (n - r)
  rw [← e1] at a
  have b := sumTo_add f (n - r) r
  rw [← e2] at b
  rw [a, b, sumTo_congr (fun j => f ((j + (n - r)) % n)) (fun j => f (n - r + j)) r (fun j hj => by rw [Nat.mod_eq_of_lt (by omega), Nat.add_comm]),
    sumTo_congr (fun j => f ((r + j + (n - r)) % n)) f (n - r) (fun j hj => by rw [show r + j + (n - r) = j + n from by omega, Nat.add_mod_right, Nat.mod_eq_of_lt (by omega)]), Int.add_comm]
theorem ones_rot (n r : Int) (h0 : 0 ≤ n) (h1 : n < 18446744073709551616) (h2 : 0 ≤ r) (h3 : r < 64) : sumTo (nbit (rot n r)) 64 = sumTo (nbit n) 64 := by
  rw [sumTo_congr (nbit (rot n r)) (fun j => nbit n ((j + (64 - r.toNat)) % 64)) 64 (fun j hj => nbit_rot n r j h0 h1 h2 h3 hj)]
  exact sumTo_turn (nbit n) 64 r.toNat (by omega)
theorem sum_bd (n : Int) (k : Nat) : 0 ≤ sumTo (nbit n) k ∧ sumTo (nbit n) k ≤ k := by
  induction k with
  | zero => simp [sumTo]
  | succ k ih => have := nbit_01 n k; rw [sumTo]; omega
end Go.Proofs.Ytijmpofgblmepaa
