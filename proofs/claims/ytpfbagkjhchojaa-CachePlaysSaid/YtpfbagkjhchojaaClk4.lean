
/- Layer 15: clock.Sweep where it tells nobody. -/
import Derived.Test.YtpfbagkjhchojaaClk3
set_option linter.unusedVariables false
namespace Go.Proofs.Ytpfbagkjhchojaa
open Go.RowKit Go.Shelf

set_option maxHeartbeats 1000000 in
theorem sweep_no (A0 A1 : Option Addr) (c0 c1 m n : Nat) (hand : Int) (w : World) (hn : n ≤ 65536) (h : n = 0 ∨ m ≠ n) :
    Calls Try.prog 48 #[.slice A0 n c0, .slice A1 m c1, .int .i64 hand] w fun e w' => e = .returned (.tuple #[.int .i64 (-1), .int .i64 0, .slice none 0 0]) ∧ Below w.heap.size w w' := by
  by_cases h0 : n = 0
  · subst h0
    clear h hn
    go_enter Try.func48, Try.ntmps48
    go_wp2
    have c6 : Boxed (((((w.alloc (Obj.cells #[Value.slice A0 0 c0] 49)).alloc (Obj.cells #[Value.int IntKind.i64 (-1)] 3)).alloc (Obj.cells #[Value.int IntKind.i64 0] 3)).alloc (Obj.cells #[Value.slice none 0 0] 49)).alloc (Obj.cells #[Value.int IntKind.i64 0] 3)) (w.heap.size + 1) 3 (.int .i64 (-1)) := by
      have := Boxed.new (w.alloc (.cells #[.slice A0 0 c0] 49)) 3 (.int .i64 (-1))
      rw [World.size_alloc] at this
      exact ((this.alloc _).alloc _).alloc _
    have c7 : Boxed (((((w.alloc (Obj.cells #[Value.slice A0 0 c0] 49)).alloc (Obj.cells #[Value.int IntKind.i64 (-1)] 3)).alloc (Obj.cells #[Value.int IntKind.i64 0] 3)).alloc (Obj.cells #[Value.slice none 0 0] 49)).alloc (Obj.cells #[Value.int IntKind.i64 0] 3)) (w.heap.size + 1 + 1) 3 (.int .i64 0) := by
      have := Boxed.new ((w.alloc (.cells #[.slice A0 0 c0] 49)).alloc (.cells #[.int .i64 (-1)] 3)) 3 (.int .i64 0)
      simp only [World.size_alloc] at this
      exact (this.alloc _).alloc _
    have c8 : Boxed (((((w.alloc (Obj.cells #[Value.slice A0 0 c0] 49)).alloc (Obj.cells #[Value.int IntKind.i64 (-1)] 3)).alloc (Obj.cells #[Value.int IntKind.i64 0] 3)).alloc (Obj.cells #[Value.slice none 0 0] 49)).alloc (Obj.cells #[Value.int IntKind.i64 0] 3)) (w.heap.size + 1 + 1 + 1) 49 (.slice none 0 0) := by
      have := Boxed.new (((w.alloc (.cells #[.slice A0 0 c0] 49)).alloc (.cells #[.int .i64 (-1)] 3)).alloc (.cells #[.int .i64 0] 3)) 49 (.slice none 0 0)
      simp only [World.size_alloc] at this
      exact this.alloc _
    refine bodyPost_ret (v := .tuple #[.int .i64 (-1), .int .i64 0, .slice none 0 0]) ?_ rfl ⟨rfl, ((((Below.refl _ w).alloc (Nat.le_refl _) _).alloc (by simp only [World.size_alloc]; omega) _).alloc (by simp only [World.size_alloc]; omega) _).alloc (by simp only [World.size_alloc]; omega) _ |>.alloc (by simp only [World.size_alloc]; omega) _⟩
    simp [results, Try.f48, go_sem, c6.cell, c7.cell, c8.cell]
  · have h1 : ((n : Int) == 0) = false := by simp; omega
    have h2 : ((m : Int) != (n : Int)) = true := by simp; omega
    clear h h0
    go_enter Try.func48, Try.ntmps48
    go_wp2
    have c6 : Boxed (((((w.alloc (Obj.cells #[Value.slice A0 n c0] 49)).alloc (Obj.cells #[Value.int IntKind.i64 (-1)] 3)).alloc (Obj.cells #[Value.int IntKind.i64 0] 3)).alloc (Obj.cells #[Value.slice none 0 0] 49)).alloc (Obj.cells #[Value.int IntKind.i64 (n : Int)] 3)) (w.heap.size + 1) 3 (.int .i64 (-1)) := by
      have := Boxed.new (w.alloc (.cells #[.slice A0 n c0] 49)) 3 (.int .i64 (-1))
      rw [World.size_alloc] at this
      exact ((this.alloc _).alloc _).alloc _
    have c7 : Boxed (((((w.alloc (Obj.cells #[Value.slice A0 n c0] 49)).alloc (Obj.cells #[Value.int IntKind.i64 (-1)] 3)).alloc (Obj.cells #[Value.int IntKind.i64 0] 3)).alloc (Obj.cells #[Value.slice none 0 0] 49)).alloc (Obj.cells #[Value.int IntKind.i64 (n : Int)] 3)) (w.heap.size + 1 + 1) 3 (.int .i64 0) := by
      have := Boxed.new ((w.alloc (.cells #[.slice A0 n c0] 49)).alloc (.cells #[.int .i64 (-1)] 3)) 3 (.int .i64 0)
      simp only [World.size_alloc] at this
      exact (this.alloc _).alloc _
    have c8 : Boxed (((((w.alloc (Obj.cells #[Value.slice A0 n c0] 49)).alloc (Obj.cells #[Value.int IntKind.i64 (-1)] 3)).alloc (Obj.cells #[Value.int IntKind.i64 0] 3)).alloc (Obj.cells #[Value.slice none 0 0] 49)).alloc (Obj.cells #[Value.int IntKind.i64 (n : Int)] 3)) (w.heap.size + 1 + 1 + 1) 49 (.slice none 0 0) := by
      have := Boxed.new (((w.alloc (.cells #[.slice A0 n c0] 49)).alloc (.cells #[.int .i64 (-1)] 3)).alloc (.cells #[.int .i64 0] 3)) 49 (.slice none 0 0)
      simp only [World.size_alloc] at this
      exact this.alloc _
    refine bodyPost_ret (v := .tuple #[.int .i64 (-1), .int .i64 0, .slice none 0 0]) ?_ rfl ⟨rfl, ((((Below.refl _ w).alloc (Nat.le_refl _) _).alloc (by simp only [World.size_alloc]; omega) _).alloc (by simp only [World.size_alloc]; omega) _).alloc (by simp only [World.size_alloc]; omega) _ |>.alloc (by simp only [World.size_alloc]; omega) _⟩
    simp [results, Try.f48, go_sem, c6.cell, c7.cell, c8.cell]
end Go.Proofs.Ytpfbagkjhchojaa
