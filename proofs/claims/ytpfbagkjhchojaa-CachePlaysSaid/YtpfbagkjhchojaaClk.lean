
/- Layer 15: the clock's iterator (clock.round): its contract as a range over a function. -/
import Derived.RangeFuncNested
import Derived.RangeFuncBound
import Derived.RangeFuncCalls
import Derived.RangeFuncLeaves
import Derived.RangeFuncFrom
import Derived.Shelf.Abstract
import Derived.Shelf.RegionOpen
import Derived.WalkKit
import Derived.OwnWalkIn
import Derived.TacticsInMore
import Derived.LoopNIn
import Derived.LoopIn
import Derived.Test.YtpfbagkjhchojaaApp
import Derived.Lib.Hide
import Derived.Test.YtpfbagkjhchojaaProg
set_option linter.unusedVariables false
namespace Go.Proofs.Ytpfbagkjhchojaa
open Go.RowKit Go.Shelf
attribute [local go_sem] Oper.semAt_some

/-- What has come when k rounds are over: f 0, .., f (k - 1). -/
def upto {α : Type} (f : Nat → α) (k : Nat) : List α := (List.range k).map f
theorem upto_succ {α : Type} (f : Nat → α) (k : Nat) : upto f (k + 1) = upto f k ++ [f k] := by simp [upto, List.range_succ]
theorem upto_length {α : Type} (f : Nat → α) (k : Nat) : (upto f k).length = k := by simp [upto]

/-- The place at the j-th look, from h on. -/
def spot (n h : Nat) (hn : 0 < n) (j : Nat) : Fin n := ⟨(h + j) % n, Nat.mod_lt _ hn⟩

/-- What a round keeps: the iterator's own two boxes. -/
def Kp2 (Bn Bh : Nat) (A B : World) : Prop := B.heap[Bn]? = A.heap[Bn]? ∧ B.heap[Bh]? = A.heap[Bh]?
theorem Kp2.refl (Bn Bh : Nat) (A : World) : Kp2 Bn Bh A A := ⟨rfl, rfl⟩
theorem Kp2.trans {Bn Bh : Nat} {A B C : World} (h : Kp2 Bn Bh A B) (h' : Kp2 Bn Bh B C) : Kp2 Bn Bh A C := ⟨h'.1.trans h.1, h'.2.trans h.2⟩

set_option maxRecDepth 100000 in
set_option maxHeartbeats 2000000 in
theorem round1_in (F : Fence) (m : Nat) (hf : F.fn 92) (hro : F.round = none) (hm : 1 ≤ m) (l Bn Bh n h : Nat) (hn : n ≤ 65536) (hp : 0 < n) (hh : h < n) (J Jx : List (Fin n) → World → Prop)
    (hY : ∀ pre x W, J pre W → pre.length < 2 * n → YieldAt F (m - 1) Try.prog l #[.int .i64 ((x.val : Nat) : Int)] W fun e W' =>
      (e = .returned (.bool true) ∧ J (pre ++ [x]) W' ∧ Kp2 Bn Bh W W') ∨ (e = .returned (.bool false) ∧ Jx (pre ++ [x]) W'))
    (W : World) (hBn : W.cell? ⟨Bn, 0, none⟩ = some (.int .i64 (n : Int))) (hBh : W.cell? ⟨Bh, 0, none⟩ = some (.int .i64 (h : Int))) (h0 : J [] W) :
    CallsIn F m Try.prog 92 #[.func (.yield l) #[] #[], .pointer (some ⟨Bn, 0, none⟩), .pointer (some ⟨Bh, 0, none⟩)] W fun e W' => (∃ v, e = .returned v) ∧
      ((∃ ys, ys = upto (spot n h hp) (2 * n) ∧ J ys W') ∨ (∃ pre, (∃ k, k ≤ 2 * n ∧ pre = upto (spot n h hp) k) ∧ Jx pre W')) := by
  refine callsIn_of_wp Try.func92 rfl hf ?_ hro
  simp only [Try.ntmps92, List.size_toArray, List.length_cons, List.length_nil, Nat.reduceAdd, Nat.reduceSub, Array.replicate_succ, Array.replicate_zero, List.push_toArray, List.append_toArray, List.nil_append, List.cons_append]
  have e2 : IntKind.i64.wrap (2 * (n : Int)) = ((2 * n : Nat) : Int) := by rw [IntKind.wrap_i64]; omega
  gi_wp2
  gi_loopw [7] (fun i wr => ∃ k : Nat, k ≤ 2 * n ∧ i = .int .i64 k ∧ J (upto (spot n h hp) k) wr ∧ Kp2 Bn Bh W wr)
    (fun i _ => 2 * n - (intOf i).toNat)
  case atStart => exact ⟨0, Nat.zero_le _, rfl, h0, Kp2.refl _ _ _⟩
  case round =>
    obtain ⟨k, hk, rfl, hJs, hnx⟩ := hrel
    by_cases hlt : k < 2 * n
    · have c1 := (World.cell?_of_block (a := ⟨Bn, 0, none⟩) hnx.1).trans hBn
      have c2 := (World.cell?_of_block (a := ⟨Bh, 0, none⟩) hnx.2).trans hBh
      obtain ⟨fn, tmps, assign, body, hy, hR⟩ := hY _ (spot n h hp k) wr hJs (by rw [upto_length]; exact hlt)
      have e3 : (((spot n h hp k).val : Nat) : Int) = ((h : Int) + (k : Int)) % (n : Int) := by simp [spot]
      rw [e3] at hy
      gi_wp2
      refine hR.mono ?_
      rintro e W3 (⟨rfl, hJ3, hk3⟩ | ⟨rfl, hJx3⟩)
      · gi_wp2
        go_roundw
        case rel => exact ⟨k + 1, by omega, by simp, by rw [upto_succ]; exact hJ3, hnx.trans hk3⟩
        case measure => simp [intOf]; omega
      · gi_wp2
        refine bodyPost_ret (results_none rfl _ _ _) rfl ?_
        exact ⟨⟨_, rfl⟩, .inr ⟨_, ⟨k + 1, by omega, (upto_succ _ _).symm⟩, hJx3⟩⟩
    · obtain rfl : k = 2 * n := by omega
      gi_wp2
      go_end0
      exact ⟨⟨_, rfl⟩, .inl ⟨_, rfl, hJs⟩⟩
end Go.Proofs.Ytpfbagkjhchojaa
