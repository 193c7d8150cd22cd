
/- Contracts of layer 4 (value), the third part: Check, Text, Number, From, Plus, Of. -/
import Derived.Test.YtmnokoepimhelaaVal2
set_option linter.unusedVariables false
namespace Go.Proofs.Ytmnokoepimhelaa
open Go.RowKit Go.ChangeShapes Go.ChangeAt Go.WideShapes

/-- Is it a value? -/
def vcheck (n : Int) (bs : List Int) : Bool := decide (0 ≤ n ∧ n ≤ 16 ∧ pad (bs.take n.toNat) 16 = bs)

theorem check_any (n : Int) (bs : List Int) (w : World) (hb : bs.length = 16) (wb : ∀ b ∈ bs, (Lit.int .u8 b).wf = true) :
    Calls Try.prog 24 #[.agg (val n bs)] w (Gives2 w (.bool (vcheck n bs))) := by
  by_cases h0 : n < 0
  · rw [show vcheck n bs = false from by simp [vcheck]; omega]
    exact check_lo n bs w h0
  · by_cases h1 : 16 < n
    · rw [show vcheck n bs = false from by simp [vcheck]; omega]
      exact check_hi n bs w (by omega) h1
    · obtain ⟨k, rfl⟩ := Int.eq_ofNat_of_zero_le (show 0 ≤ n by omega)
      rw [show vcheck k bs = decide (pad (bs.take k) 16 = bs) from by
        unfold vcheck
        rw [Bool.eq_iff_iff]
        simp only [decide_eq_true_eq, Int.toNat_natCast]
        exact ⟨fun h => h.2.2, fun h => ⟨by omega, by omega, h⟩⟩]
      exact check_mid k bs w (by omega) hb wb

set_option maxHeartbeats 400000 in
theorem number_any (n : Int) (bs : List Int) (w : World) (hb : bs.length = 16) (wb : ∀ b ∈ bs, (Lit.int .u8 b).wf = true) :
    Calls Try.prog 34 #[.agg (val n bs)] w (Gives2 w (.int .u64 (num (bs.take 8)))) := by
  have hg := heap_alloc_new w (Obj.cells (val n bs) 28)
  have hr := Rd.val_take 16 hg
  rw [List.take_of_length_le (by omega)] at hr
  have HN := num_yes (w.heap.size + 1) _ 16 bs 0 8 _ hr (fun z h => by have := bounds_u8 (wb z h); omega) (by omega) (by decide) (by decide) (by omega)
  rw [List.drop_zero, hb] at HN
  have H := Lib.hid HN
  clear HN hg hr
  go_enter Try.func34, Try.ntmps34
  go_wp2_with (go_at_call 37; refine H.out.mono ?_; rintro e w1 ⟨rfl, rfl⟩)
  go_ret
  exact ⟨rfl, (Below.refl _ _).alloc (Nat.le_refl _) _⟩

/-- The value that is a number. -/
def from_ (n : Int) : List Int := pad (le n 8) 16
theorem from_length (n : Int) : (from_ n).length = 16 := pad_length _ _ (by rw [le_length]; decide)

set_option maxHeartbeats 400000 in
theorem from_any (n : Int) (w : World) (h0 : 0 ≤ n) :
    Calls Try.prog 33 #[.int .u64 n] w (Gives2 w (.agg (val 8 (from_ n)))) := by
  have HP := fun W => put_yes 0 none 0 [] n 8 W Rd.nil (by decide) (by decide) (by decide) h0
  have H := Lib.hid HP
  have hsz := Lib.hid (val_size 8 (from_ n) (from_length n))
  clear HP
  go_enter Try.func33, Try.ntmps33
  go_wp2_with fail
  refine (H.out _).mono ?_
  rintro e w1 ⟨v, rfl, own, hb1⟩
  rw [List.nil_append, show ([] : List Int).length + 8 = (le n 8).length from by rw [le_length]; rfl] at own
  obtain ⟨A1, c1, rfl, _, _, rd, _⟩ := Rd.of_own own
  have HO := of_any _ A1 c1 (le n 8) w1 rd (Nat.le_refl _) (by rw [le_length]; decide)
  have HZ := Lib.hid ((hb1.block w.heap.size (by simp)).trans (heap_alloc_new w _))
  have HB := Lib.hid (((Below.refl w.heap.size w).alloc (Nat.le_refl _) _).trans (hb1.mono (by simp)))
  have hlt : w.heap.size < w1.heap.size := by have := hb1.size; simp at this; omega
  clear own rd hb1
  rw [le_length] at HO
  have HO : Hid (Calls Try.prog 32 #[.slice A1 8 c1] w1 (Gives2 w1 (.agg (val 8 (from_ n))))) := Lib.hid HO
  go_wp2_with fail
  rw [le_length]
  refine HO.out.mono ?_
  rintro e w2 ⟨rfl, hb2⟩
  have hz := (hb2.block w.heap.size hlt).trans HZ.out
  have HB2 := Lib.hid (HB.out.trans (hb2.mono HB.out.size))
  clear hb2
  have HZ2 := Lib.hid hz
  clear hz
  go_wp2_with (refine wpList_store_row rfl 28 (.tmp 2) (.tmp 5) rfl w.heap.size _ rfl rfl 28 _ HZ2.out (by rw [hsz.out]; exact size24) (by rw [hsz.out]; rfl) (all_one (val_one _ _)) ?_)
  refine bodyPost_ret (results_cell_row rfl _ _ w.heap.size 28 _ (0, 0) _ rfl (setRow_heap _ _ _ _ _ _ HZ2.out) Try.underlying28 rfl (by rw [hsz.out]; exact size24)) rfl ⟨rfl, ?_⟩
  exact below_setRow HB2.out (Nat.le_refl _) _
end Go.Proofs.Ytmnokoepimhelaa
