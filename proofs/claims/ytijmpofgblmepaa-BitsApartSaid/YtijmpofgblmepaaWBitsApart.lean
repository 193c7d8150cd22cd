/- The walk of the law BitsApart. -/
import Derived.Test.YtijmpofgblmepaaWBitsAll
import Derived.Deep.AppendLies
set_option linter.unusedVariables false
namespace Go.Proofs.Ytijmpofgblmepaa
open Go.RowKit Go.ChangeShapes

theorem num_set (l : List Int) (i : Nat) (v : Int) (hi : i < l.length) : num (l.set i v) = num l + 256 ^ i * (v - l[i]) := by
  induction l generalizing i with
  | nil => simp at hi
  | cons x l ih =>
    cases i with
    | zero => simp [num]; omega
    | succ i =>
      have := ih i (by simpa using hi)
      simp only [List.set_cons_succ, num, this, List.getElem_cons_succ, Int.pow_succ]
      rw [Int.mul_add, ← Int.mul_assoc, Int.mul_comm 256 (256 ^ i), Int.add_assoc]
theorem num_in (zs : List Int) (kk at_ k : Nat) (v : Int) (hk : kk < zs.length) (h1 : at_ ≤ kk) (h2 : kk < at_ + k) (hv : v ≠ zs[kk]) :
    (num ((zs.drop at_).take k) != num (((zs.set kk v).drop at_).take k)) = true := by
  rw [List.drop_set, if_neg (by omega), List.take_set, num_set _ _ _ (by simp; omega)]
  have e : ((zs.drop at_).take k)[kk - at_]'(by simp; omega) = zs[kk] := by
    simp only [List.getElem_take, List.getElem_drop]
    congr 1; omega
  rw [e, bne_iff_ne]
  intro h
  have hz : (256 : Int) ^ (kk - at_) * (v - zs[kk]) = 0 := by omega
  rcases Int.mul_eq_zero.1 hz with h | h
  · have : (0 : Int) < 256 ^ (kk - at_) := Int.pow_pos (by decide)
    omega
  · omega
theorem num_out (zs : List Int) (kk at_ k : Nat) (v : Int) (h : kk < at_ ∨ at_ + k ≤ kk) :
    ((zs.set kk v).drop at_).take k = (zs.drop at_).take k := by
  rw [List.drop_set]
  split
  · rfl
  · rw [List.take_set, List.set_eq_of_length_le (by simp; omega)]
theorem xor_byte (z x : Int) (h0 : 0 ≤ z) (h1 : z < 256) (h2 : 0 < x) (h3 : x < 256) : ∃ v, bits .xor .u8 z x = v ∧ 0 ≤ v ∧ v < 256 ∧ v ≠ z := by
  obtain ⟨a, rfl⟩ := Int.eq_ofNat_of_zero_le h0
  obtain ⟨b, rfl⟩ := Int.eq_ofNat_of_zero_le (show 0 ≤ x by omega)
  have ha : (BitVec.ofInt 8 (a : Int)).toNat = a := by rw [BitVec.ofInt_natCast, BitVec.toNat_ofNat]; exact Nat.mod_eq_of_lt (by omega)
  have hb : (BitVec.ofInt 8 (b : Int)).toNat = b := by rw [BitVec.ofInt_natCast, BitVec.toNat_ofNat]; exact Nat.mod_eq_of_lt (by omega)
  have hx : a ^^^ b < 2 ^ 8 := Nat.xor_lt_two_pow (by omega) (by omega)
  refine ⟨((a ^^^ b : Nat) : Int), ?_, by omega, by omega, ?_⟩
  · show IntKind.u8.wrap ((BitVec.ofInt 8 (a : Int) ^^^ BitVec.ofInt 8 (b : Int)).toNat : Int) = _
    rw [BitVec.toNat_xor, ha, hb, IntKind.wrap_u8]
    omega
  · intro h
    have h' : a ^^^ b = a := by omega
    have : a ^^^ (a ^^^ b) = a ^^^ a := by rw [h']
    rw [← Nat.xor_assoc, Nat.xor_self, Nat.zero_xor] at this
    omega
theorem turned (t : Int) (n : Nat) (hn : 0 < n) : ∃ kk : Nat, kk < n ∧ (t.tmod n = kk ∨ (t.tmod n = -(kk : Int) ∧ 0 < kk)) := by
  rcases Int.lt_or_le t 0 with h | h
  · rw [tm_neg _ h]
    have g1 := Int.emod_nonneg (-t) (show (n : Int) ≠ 0 by omega)
    have g2 := Int.emod_lt_of_pos (-t) (show 0 < (n : Int) by omega)
    refine ⟨((-t) % (n : Int)).toNat, by omega, ?_⟩
    by_cases h0 : (-t) % (n : Int) = 0
    · left; rw [h0]; rfl
    · right; omega
  · rw [tm_pos _ h]
    have g1 := Int.emod_nonneg t (show (n : Int) ≠ 0 by omega)
    have g2 := Int.emod_lt_of_pos t (show 0 < (n : Int) by omega)
    exact ⟨(t % (n : Int)).toNat, by omega, by left; omega⟩

/-- What the two reads give, and whether the byte is among the number's own. -/
theorem two_nums (A : Option Addr) (c : Nat) (zs : List Int) (kk : Nat) (v : Int) (at_ : Int) (k : Nat) (hk : kk < zs.length) (hz : ∀ z ∈ zs, 0 ≤ z ∧ z < 256) (hv0 : 0 ≤ v) (hv1 : v < 256) (hv : v ≠ zs[kk]) (hl : zs.length ≤ 300) (h1 : 1 ≤ k) (h2 : k ≤ 8) :
    ∃ (x y : Int) (ok : Bool), ((ok = true ∧ (0 ≤ at_ ∧ at_ ≤ (zs.length : Int) - k) ∧ (x != y) = false ∧ (kk : Int) < at_) ∨ (ok = true ∧ (0 ≤ at_ ∧ at_ ≤ (zs.length : Int) - k) ∧ (x != y) = false ∧ (at_ ≤ kk ∧ decide ((kk : Int) - at_ < k) = false)) ∨
        (ok = true ∧ (0 ≤ at_ ∧ at_ ≤ (zs.length : Int) - k) ∧ (x != y) = true ∧ (at_ ≤ kk ∧ (kk : Int) - at_ < k)) ∨ (ok = false ∧ (0 ≤ at_ ∧ (zs.length : Int) - k < at_) ∧ (x != y) = false ∧ True) ∨ (ok = false ∧ (at_ < 0 ∧ True) ∧ (x != y) = false ∧ True)) ∧
      (∀ W B, Rd W B A (zs.map (.int .u8)) → Gives 11 #[.slice A zs.length c, .int .i64 at_, .int .i64 k] (.tuple #[.int .u64 x, .bool ok]) W) ∧
      (∀ W B A' c', Rd W B A' ((zs.set kk v).map (.int .u8)) → Gives 11 #[.slice A' zs.length c', .int .i64 at_, .int .i64 k] (.tuple #[.int .u64 y, .bool ok]) W) := by
  have hz' : ∀ z ∈ zs.set kk v, 0 ≤ z ∧ z < 256 := fun z hzm => by
    rcases List.mem_or_eq_of_mem_set hzm with h | h
    · exact hz z h
    · subst h; exact ⟨hv0, hv1⟩
  by_cases h : 0 ≤ at_ ∧ at_ ≤ (zs.length : Int) - k
  · obtain ⟨a1, a2⟩ := h
    obtain ⟨at_, rfl⟩ := Int.eq_ofNat_of_zero_le a1
    refine ⟨num ((zs.drop at_).take k), num (((zs.set kk v).drop at_).take k), true, ?_, fun W B hr => num_yes B A c zs at_ k W hr hz (by omega) h1 h2 (by omega), fun W B A' c' hr => ?_⟩
    rotate_left
    · have := num_yes B A' c' (zs.set kk v) at_ k W hr hz' (by simp; omega) h1 h2 (by simp; omega)
      rw [List.length_set] at this
      exact this
    · by_cases hin : at_ ≤ kk ∧ kk < at_ + k
      · rw [num_in zs kk at_ k v hk hin.1 hin.2 hv]
        exact .inr (.inr (.inl ⟨rfl, ⟨a1, a2⟩, rfl, by omega, by omega⟩))
      · rw [num_out zs kk at_ k v (by omega)]
        by_cases hlo : kk < at_
        · exact .inl ⟨rfl, ⟨a1, a2⟩, by simp, by omega⟩
        · exact .inr (.inl ⟨rfl, ⟨a1, a2⟩, by simp, by omega, by simp; omega⟩)
  · refine ⟨0, 0, false, ?_, fun W B hr => num_no A zs.length c at_ k W (by omega) (by omega), fun W B A' c' hr => num_no A' zs.length c' at_ k W (by omega) (by omega)⟩
    by_cases h0 : 0 ≤ at_
    · exact .inr (.inr (.inr (.inl ⟨rfl, ⟨h0, by omega⟩, rfl, trivial⟩)))
    · exact .inr (.inr (.inr (.inr ⟨rfl, ⟨by omega, trivial⟩, rfl, trivial⟩)))

set_option maxHeartbeats 1000000 in
theorem bitsApart_walk (w : World) (A0 : Option Addr) (c0 : Nat) (z0 : List Int) (rd0 : Rd w w.heap.size A0 (z0.map (.int .u8))) (l0 : z0.length ≤ c0) (m0 : c0 ≤ maxLen) (w0 : ∀ z ∈ z0, (Lit.int .u8 z).wf = true)
    (a1 : Int) (w1 : (Lit.int .i64 a1).wf = true) (a2 : Int) (w2 : (Lit.int .i64 a2).wf = true) (a3 : Int) (w3 : (Lit.int .i64 a3).wf = true) (a4 : Int) (w4 : (Lit.int .u8 a4).wf = true) :
    Calls Try.prog 9 #[.slice A0 z0.length c0, .int .i64 a1, .int .i64 a2, .int .i64 a3, .int .u8 a4] w fun e w' => e = .returned (.bool true) ∧ Below w.heap.size w w' := by
  obtain ⟨b1, b1'⟩ := bounds_i64 w1
  obtain ⟨b3, b3'⟩ := bounds_i64 w3
  obtain ⟨b4, b4'⟩ := bounds_u8 w4
  unfold maxLen at m0
  by_cases hg : z0.length ≤ 300 ∧ 0 < z0.length ∧ 1 ≤ a2 ∧ a2 ≤ 8 ∧ 0 < a4
  · obtain ⟨g1, g2, g3, g4, g5⟩ := hg
    obtain ⟨k, rfl⟩ := Int.eq_ofNat_of_zero_le (show 0 ≤ a2 by omega)
    obtain ⟨kk, hkk, hturn⟩ := turned a3 z0.length g2
    have hz := u8s w0
    obtain ⟨v, hv, v0, v1, vne⟩ := xor_byte z0[kk] a4 (hz _ (List.getElem_mem hkk)).1 (hz _ (List.getElem_mem hkk)).2 g5 (by omega)
    obtain ⟨x, y, ok, hcase, N1, N2⟩ := two_nums A0 c0 z0 kk v a1 k hkk hz v0 v1 vne g1 (by omega) (by omega)
    have hne : ((z0.length : Int) == 0) = false := beq_eq_false_iff_ne.2 (by omega)
    have hne4 : (a4 == 0) = false := by simpa using Int.ne_of_gt g5
    have HV := Lib.hid hv
    have HN1 := Lib.hid N1
    have HN2 := Lib.hid N2
    have HD := Lib.hid rd0
    clear w0 w1 w2 w3 w4 hz hv N1 N2 vne rd0
    have HK : Hid (kk < z0.length) := hkk
    rcases hcase with ⟨rfl, ⟨o1, o2⟩, xy, own⟩ | ⟨rfl, ⟨o1, o2⟩, xy, own⟩ | ⟨rfl, ⟨o1, o2⟩, xy, own⟩ | ⟨rfl, ⟨o1, o2⟩, xy, own⟩ | ⟨rfl, ⟨o1, o2⟩, xy, own⟩
    all_goals
      rcases hturn with ht | ⟨ht, hpos⟩
      all_goals
        go_enter Try.func9, Try.ntmps9
        go_wp2_with (first
          | (go_at_call 11; refine (gives (HN1.out _ _ HD.out)).mono ?_; rintro e w' ⟨rfl, rfl⟩; clear HN1)
          | (at_builtin; refine wpl_app app22 rfl _ _ rfl w.heap.size (.slice (some ⟨w.heap.size, 0, none⟩) 0 0) 0 [] rfl (World.ownsRow_lit _ _ _ (Nat.le_refl _) (by decide) (by decide)) w.heap.size A0 z0.length c0 _ rfl (by simp) (HD.out.alloc (Nat.le_refl _) _) (ints_one _ _) (by unfold maxLen; omega) (by omega) (by simp) ?_; intro v1 w1 hown1 hg1 hat1; simp only [Nat.zero_add, List.nil_append] at hown1; obtain ⟨g, cap, rfl, hbg, hgl⟩ := hown1.form (by omega); have qc := hown1.cellAt kk (by omega); rw [List.getElem?_map, List.getElem?_eq_getElem HK.out, Option.map_some] at qc; have qf := hown1.frozenAt kk; have hst := hown1.stored kk (.int .u8 v); have HO := Lib.hid hst; have HG := Lib.hid hg1; have hv := HV.out; clear hst hg1 hown1 hat1))
        clear ht
        obtain ⟨own2, hg2⟩ := HO.out
        rw [← List.map_set] at own2
        obtain ⟨A2, c2, hA2, l2, _, rd2, _⟩ := Rd.of_own own2
        simp only [Value.slice.injEq] at hA2
        obtain ⟨rfl, _, rfl⟩ := hA2
        have HC := Lib.hid (HN2.out _ _ _ cap rd2)
        have HB : Hid (Below w.heap.size w _) := Lib.hid (((((Below.refl w.heap.size w).alloc (Nat.le_refl _) _).grown HG.out (by simp) (fun k hk => by simp [Value.ownBlock] at hk; omega)).setCell (p := ⟨g, kk, none⟩) hbg (.int .u8 v)))
        clear own2 hg2 rd2 qc qf hv
        go_wp2_with (first
          | (go_at_call 11; refine (gives HC.out).mono ?_; rintro e w' ⟨rfl, rfl⟩)
          | (go_at_call 10; refine (awake _).mono ?_; rintro e w' ⟨rfl, hb⟩))
        go_ret
        exact ⟨rfl, HB.out.trans (hb.mono HB.out.size)⟩
  · have hne4 : a4 = 0 ∨ 0 < a4 := by omega
    have : 300 < z0.length ∨ (z0.length ≤ 300 ∧ (((z0.length : Int) == 0) = true)) ∨ (z0.length ≤ 300 ∧ (((z0.length : Int) == 0) = false) ∧ a2 < 1) ∨ (z0.length ≤ 300 ∧ (((z0.length : Int) == 0) = false) ∧ 1 ≤ a2 ∧ 8 < a2) ∨ (z0.length ≤ 300 ∧ (((z0.length : Int) == 0) = false) ∧ 1 ≤ a2 ∧ a2 ≤ 8 ∧ (a4 == 0) = true) := by
      simp only [beq_iff_eq, beq_eq_false_iff_ne, ne_eq]
      omega
    rcases this with m1 | ⟨m1, m2⟩ | ⟨m1, m2, m3⟩ | ⟨m1, m2, m3, m4⟩ | ⟨m1, m2, m3, m4, m5⟩ <;> clear hg hne4 w0 w1 w2 w3 w4 rd0
    all_goals
      go_enter Try.func9, Try.ntmps9
      go_wp2_with (go_at_call 10; refine (awake _).mono ?_; rintro e w' ⟨rfl, hb⟩)
      go_ret
      exact ⟨rfl, hb⟩
end Go.Proofs.Ytijmpofgblmepaa
