
/- Contracts of layer 4's references. -/
import Derived.Test.YtmnokoepimhelaaVal4
set_option linter.unusedVariables false
namespace Go.Proofs.Ytmnokoepimhelaa
open Go.RowKit Go.ChangeShapes Go.ChangeAt Go.WideShapes

theorem pad_iff (bs : List Int) (k : Nat) (hb : bs.length = 16) (hk : k ≤ 16) : pad (bs.take k) 16 = bs ↔ ∀ i, k ≤ i → i < 16 → bs[i]?.getD 0 = 0 := by
  have hl : (bs.take k).length = k := by rw [List.length_take]; omega
  unfold pad
  rw [hl]
  constructor
  · intro h i h1 h2
    rw [← h, List.getElem?_append_right (by omega), hl, List.getElem?_replicate]
    split <;> rfl
  · intro h
    apply List.ext_getElem?
    intro i
    by_cases hi : i < k
    · rw [List.getElem?_append_left (by omega), List.getElem?_take, if_pos hi]
    · rw [List.getElem?_append_right (by omega), hl, List.getElem?_replicate]
      by_cases h16 : i < 16
      · rw [if_pos (by omega)]
        have := h i (by omega) h16
        rw [List.getElem?_eq_getElem (by omega)] at this ⊢
        simpa using this.symm
      · rw [if_neg (by omega), List.getElem?_eq_none (by omega)]
theorem vcheck_nat (k : Nat) (bs : List Int) (hk : k ≤ 16) : vcheck k bs = decide (pad (bs.take k) 16 = bs) := by
  unfold vcheck
  rw [Bool.eq_iff_iff]
  simp only [decide_eq_true_eq, Int.toNat_natCast]
  exact ⟨fun h => h.2.2, fun h => ⟨by omega, by omega, h⟩⟩

theorem val_at (n : Int) (bs : List Int) (j : Nat) (hj : j < bs.length) : (val n bs)[1 + j]? = some (.int .u8 (bs[j]?.getD 0)) := by
  simp only [val, List.getElem?_toArray, Nat.add_comm 1 j, List.getElem?_cons_succ, List.getElem?_map, List.getElem?_eq_getElem hj]
  rfl
theorem val_set (n : Int) (bs : List Int) (j : Nat) (b : Int) : (val n bs).setIfInBounds (1 + j) (.int .u8 b) = val n (bs.set j b) := by
  simp [val, Nat.add_comm 1 j, List.map_set]

set_option maxHeartbeats 400000 in
theorem rcheck_any (n : Int) (bs : List Int) (w : World) (hb : bs.length = 16) :
    Calls Try.prog 13 #[.agg (val n bs)] w (Gives2 w (.bool (vcheck n bs))) := by
  have v0 := val_0 n bs
  by_cases h0 : n < 0
  · rw [show vcheck n bs = false from by simp [vcheck]; omega]
    go_enter Try.func13, Try.ntmps13
    go_wp2
    go_ret
    exact ⟨rfl, (Below.refl _ _).alloc (Nat.le_refl _) _⟩
  · have h0' : 0 ≤ n := by omega
    by_cases h1 : 16 < n
    · rw [show vcheck n bs = false from by simp [vcheck]; omega]
      clear h0
      go_enter Try.func13, Try.ntmps13
      go_wp2
      go_ret
      exact ⟨rfl, (Below.refl _ _).alloc (Nat.le_refl _) _⟩
    · obtain ⟨k, rfl⟩ := Int.eq_ofNat_of_zero_le h0'
      have hk : (k : Int) ≤ 16 := by omega
      have HV := Lib.hid (vcheck_nat k bs (by omega))
      have HI := Lib.hid (pad_iff bs k hb (by omega))
      have HA := Lib.hid (val_at (k : Int) bs)
      clear h0 h1 h0'
      go_enter Try.func13, Try.ntmps13
      go_wp2
      go_loop [3] (fun i => ∃ j : Nat, k ≤ j ∧ j ≤ 16 ∧ i = .int .i64 j ∧ ∀ i, k ≤ i → i < j → bs[i]?.getD 0 = 0) (fun i => 16 - (intOf i).toNat)
      case atStart => exact ⟨k, Nat.le_refl _, by omega, rfl, fun i h1 h2 => absurd h2 (by omega)⟩
      case round =>
        obtain ⟨j, hj1, hj2, rfl, hz⟩ := hrel
        have HZ := Lib.hid hz
        clear hz
        by_cases hlt : j < 16
        · have hcell := HA.out j (by omega)
          obtain ⟨z, hzz⟩ : ∃ z, bs[j]?.getD 0 = z := ⟨_, rfl⟩
          rw [hzz] at hcell
          have HN := Lib.hid hzz
          clear hzz
          by_cases hne : z = 0
          · subst hne
            go_wp2
            go_round
            case rel => exact ⟨j + 1, by omega, by omega, by go_num, fun i h1 h2 => by
              rcases Nat.lt_or_ge i j with h | h
              · exact HZ.out i h1 h
              · rw [show i = j from by omega]; exact HN.out⟩
            case measure => simp [intOf]; omega
          · have hb1 : (z != 0) = true := by simpa using hne
            have HNE := Lib.hid hne
            clear hne
            go_wp2
            go_ret
            exact ⟨ret_bool (by rw [HV.out]; symm; rw [decide_eq_false_iff_not, HI.out]; exact fun h => HNE.out (HN.out.symm.trans (h j (by omega) hlt))), (Below.refl _ _).alloc (Nat.le_refl _) _⟩
        · go_wp2
          go_ret
          exact ⟨ret_bool (by rw [HV.out]; symm; rw [decide_eq_true_iff, HI.out]; exact fun i h1 h2 => HZ.out i h1 (by omega)), (Below.refl _ _).alloc (Nat.le_refl _) _⟩

set_option maxHeartbeats 400000 in
theorem rnumber_any (n : Int) (bs : List Int) (w : World) (hb : bs.length = 16) (wb : ∀ b ∈ bs, (Lit.int .u8 b).wf = true) :
    Calls Try.prog 35 #[.agg (val n bs)] w (Gives2 w (.int .u64 (num (bs.take 8)))) := by
  have hg := heap_alloc_new w (Obj.cells (val n bs) 28)
  have hr := Rd.val_take 8 hg
  have HN := rnum_yes (w.heap.size + 1) _ 16 (bs.take 8) 0 8 _ hr (fun z h => by have := bounds_u8 (wb z (List.mem_of_mem_take h)); omega) (by simp; omega) (by decide) (by decide) (by simp; omega)
  rw [List.drop_zero, show (bs.take 8).length = 8 from by rw [List.length_take]; omega, List.take_take] at HN
  have H := Lib.hid HN
  clear HN hg hr
  go_enter Try.func35, Try.ntmps35
  go_wp2_with (go_at_call 38; refine H.out.mono ?_; rintro e w1 ⟨rfl, rfl⟩)
  go_ret
  exact ⟨rfl, (Below.refl _ _).alloc (Nat.le_refl _) _⟩
end Go.Proofs.Ytmnokoepimhelaa
