/- The laws' own helpers of layer 1: same, awake. -/
import Derived.Test.YtijmpofgblmepaaBitsC
namespace Go.Proofs.Ytijmpofgblmepaa
open Go.RowKit

theorem same_eq (B B' : Nat) (A A' : Option Addr) (c c' : Nat) (zs : List Int) (w : World) (h : Rd w B A (zs.map (.int .u8))) (h' : Rd w B' A' (zs.map (.int .u8))) :
    Calls Try.prog 15 #[.slice A zs.length c, .slice A' zs.length c'] w fun e w' => e = .returned (.bool true) ∧ w = w' := by
  have k := run_str 22 5 9 c Try.underlying22 Try.underlying5 Try.underlying9 h
  have k' := run_str 22 5 9 c' Try.underlying22 Try.underlying5 Try.underlying9 h'
  clear h h'
  go_enter Try.func15, Try.ntmps15
  go_wp2
  go_ret
  exact ⟨rfl, rfl⟩

theorem awake (w : World) : Calls Try.prog 10 #[] w fun e w' => e = .returned (.bool true) ∧ Below w.heap.size w w' := by
  have p1 : sig (-2) 2 = -2 := by decide
  have p2 : (-2 : Int) % pw 2 = 65534 := by decide
  have p3 : sig 255 1 = -1 := by decide
  have p4 : rot 1 (-1 % 64) = 9223372036854775808 := by decide
  have p5 : ((255 : Int) % pw 1 == 255) = true := by decide
  have p6 : ((256 : Int) % pw 1 == 256) = false := by decide
  have p7 : le 258 2 = [2, 1] := by decide
  have p8 : num (([9, 2, 1] : List Int).drop 1 |>.take 2) = 258 := by decide
  have N := narrow_yes (-2) 2
  rw [p2] at N
  have S := signed_yes 255 1
  rw [p3] at S
  have T := turn 1 (-1)
  rw [p4] at T
  have F1 := fits_yes 255 1
  rw [p5] at F1
  have F2 := fits_yes 256 1
  rw [p6] at F2
  have P := put_yes 0 none 0 [] 258 2
  rw [p7] at P
  have M := fun W B b (h : Rd W B (some b) (([9, 2, 1] : List Int).map (.int .u8))) => num_yes B (some b) 3 [9, 2, 1] 1 2 W h (by decide) (by decide) (by decide) (by decide) (by decide)
  rw [p8] at M
  have HN := Lib.hid N; have HS := Lib.hid S; have HT := Lib.hid T; have HF1 := Lib.hid F1; have HF2 := Lib.hid F2; have HP := Lib.hid P; have HM := Lib.hid M
  clear N S T F1 F2 P M p2 p3 p4 p5 p6 p7 p8
  go_enter Try.func10, Try.ntmps10
  go_wp2_with fail
  refine (HP.out w Rd.nil (by decide) (by decide) (by decide) (by decide)).mono ?_
  rintro e w1 ⟨v, rfl, hown, hb1⟩
  obtain ⟨A1, c1, rfl, _, _, hrd, _⟩ := Rd.of_own hown
  obtain ⟨b, off, rfl, hbl, hc⟩ := hrd (by simp)
  have q0 : w1.cell? ⟨b, off, none⟩ = some (.int .u8 2) := hc 0 _ rfl
  have q1 : w1.cell? ⟨b, off + 1, none⟩ = some (.int .u8 1) := hc 1 _ rfl
  have HC := Lib.hid hc
  clear hrd hown hc
  go_wp2_with fail
  refine (HM.out _ _ _ (Rd.lit w1 _ _ _ rfl)).mono ?_
  rintro e w2 ⟨rfl, rfl⟩
  go_wp2_with fail
  refine (HN.out _ (by decide) (by decide) p1).mono ?_
  rintro e w2 ⟨rfl, rfl⟩
  go_wp2_with fail
  refine (HS.out _ (by decide) (by decide)).mono ?_
  rintro e w2 ⟨rfl, rfl⟩
  go_wp2_with fail
  refine (HT.out _ (by decide) (by decide)).mono ?_
  rintro e w2 ⟨rfl, m, rfl⟩
  go_wp2_with fail
  refine (HF1.out _ (by decide) (by decide)).mono ?_
  rintro e w2 ⟨rfl, rfl⟩
  go_wp2_with fail
  refine (HF2.out _ (by decide) (by decide)).mono ?_
  rintro e w2 ⟨rfl, rfl⟩
  go_wp2_with fail
  go_ret
  exact ⟨rfl, below_drewN (hb1.alloc hb1.size _) m⟩
end Go.Proofs.Ytijmpofgblmepaa
