
/- Layer 15: rest, slices.Clone, the iterator's maker. -/
import Derived.Test.YtpfbagkjhchojaaClk
import Derived.Test.YtpfbagkjhchojaaBits
import Derived.Lib.SliceRun
set_option linter.unusedVariables false
namespace Go.Proofs.Ytpfbagkjhchojaa
open Go.RowKit Go.Shelf

theorem appB : App Try.prog 49 4 1 1 := app_mk (z := .bool false) Try.underlying49 (by kernel_rfl) rfl (by decide)

theorem clone_any (B : Nat) (A : Option Addr) (c : Nat) (zs : List Bool) (w : World) (hr : Rd w B A (zs.map .bool)) (hp : 0 < zs.length) (hl : zs.length ≤ 65536) (hB : B ≤ w.heap.size) :
    Calls Try.prog 78 #[.slice A zs.length c] w fun e w' => ∃ v, e = .returned v ∧ w'.ownsRow w.heap.size 4 1 v zs.length (zs.map .bool) ∧ Below w.heap.size w w' := by
  obtain ⟨b, off, rfl, hb, hc⟩ := hr (by intro h0; rw [List.map_eq_nil_iff] at h0; subst h0; simp at hp)
  have HR := Lib.hid hr
  clear hr hc
  have hq := Lib.run_eql_slice_nil (P := Try.prog) w 49 4 (some ⟨b, off, none⟩) zs.length c 0 0 Try.underlying49
  go_enter Try.func78, Try.ntmps78
  have hown : (w.alloc (.cells #[] 4)).ownsRow w.heap.size 4 1 (.slice (some ⟨w.heap.size, 0, none⟩) 0 0) 0 [] := ⟨rfl, .inr ⟨w.heap.size, 0, #[], rfl, Nat.le_refl _, heap_alloc_new w _, Nat.le_refl _, Nat.zero_le _, rfl, rfl⟩⟩
  go_wp2_with (at_builtin; refine wpl_app appB rfl (.tmp 5) (.tmp 6) rfl w.heap.size _ 0 [] rfl hown B _ zs.length c (zs.map .bool) rfl (by simp) (HR.out.alloc hB _) (bools_one _) (by unfold maxLen; omega) (by omega) (by simp) ?_; intro v' w' hown' hg hv)
  go_ret
  exact ⟨_, rfl, by simpa using hown', ((Below.refl _ _).alloc (Nat.le_refl _) _).grown hg (by simp) (fun k hk => by cases hk; exact Nat.le_refl _)⟩

theorem rest_any (a : Int) (n : Nat) (w : World) (ha : (Lit.int .i64 a).wf = true) (hp : 0 < n) (hl : n ≤ 65536) :
    Calls Try.prog 77 #[.int .i64 a, .int .i64 (n : Int)] w fun e w' => e = .returned (.int .i64 (a % (n : Int))) ∧ w = w' := by
  have h0 : (n : Int) ≠ 0 := by omega
  have e1 : (IntKind.i64.wrap (a.tmod (n : Int) + (n : Int))).tmod (n : Int) = a % (n : Int) := by
    have hb1 := Int.tmod_lt_of_pos a (show (0 : Int) < n by omega)
    have hb2 : -(n : Int) < a.tmod n := Int.lt_tmod_of_pos a (by omega)
    rw [show IntKind.i64.wrap (a.tmod (n : Int) + (n : Int)) = a.tmod (n : Int) + (n : Int) from by rw [IntKind.wrap_i64]; omega]
    rw [Int.tmod_eq_emod_of_nonneg (by omega), Int.add_emod_right]
    by_cases hs : 0 ≤ a
    · rw [Int.tmod_eq_emod_of_nonneg hs, Int.emod_emod_of_dvd _ (Int.dvd_refl _)]
    · rw [tm_neg (n : Int) (show a < 0 by omega)]
      have hd := Int.emod_add_mul_ediv (-a) (n : Int)
      rw [show -(-a % (n : Int)) = a + (n : Int) * (-a / (n : Int)) from by omega, Int.add_mul_emod_self_left]
  have hb := Int.tmod_lt_of_pos a (show (0 : Int) < n by omega)
  clear hp
  go_enter Try.func77, Try.ntmps77
  go_wp2
  go_ret
  exact ⟨congrArg (fun z => Ending.returned (Value.int .i64 z)) ((congrArg (fun z : Int => z.tmod (n : Int)) (show wrap64 (a.tmod (n : Int) + (n : Int)) = IntKind.i64.wrap (a.tmod (n : Int) + (n : Int)) by simp [wrap64, IntKind.wrap_i64])).trans e1), rfl⟩

set_option maxHeartbeats 1000000 in
theorem round_in (F : Fence) (m : Nat) (hf : F.fn 79) (hro : F.round = none) (h n : Int) (w : World) :
    CallsIn F m Try.prog 79 #[.int .i64 h, .int .i64 n] w fun e w' => e = .returned (.func (.func 92) #[] #[.pointer (some ⟨w.heap.size + 1, 0, none⟩), .pointer (some ⟨w.heap.size, 0, none⟩)]) ∧ w' = (w.alloc (.cells #[.int .i64 h] 3)).alloc (.cells #[.int .i64 n] 3) := by
  refine callsIn_of_wp Try.func79 rfl hf ?_ hro
  simp only [Try.ntmps79, List.size_toArray, List.length_cons, List.length_nil, Nat.reduceAdd, Nat.reduceSub, Array.replicate_succ, Array.replicate_zero, List.push_toArray, List.append_toArray, List.nil_append, List.cons_append]
  gi_wp2
  go_ret
  exact ⟨rfl, rfl⟩

/-- clock.round hands back a value that yields the spots from h on, twice round. -/
theorem round_stops (F : Fence) (m : Nat) (hf : F.fn 92) (hro : F.round = none) (hm : 1 ≤ m) (Bn Bh n h : Nat) (hn : n ≤ 65536) (hp : 0 < n) (hh : h < n) (w : World) (hb : Bn < w.heap.size) (hb2 : Bh < w.heap.size)
    (hBn : w.cell? ⟨Bn, 0, none⟩ = some (.int .i64 (n : Int))) (hBh : w.cell? ⟨Bh, 0, none⟩ = some (.int .i64 (h : Int))) :
    SeqStopsK F m Try.prog 92 #[.pointer (some ⟨Bn, 0, none⟩), .pointer (some ⟨Bh, 0, none⟩)] (fun x : Fin n => #[Value.int .i64 ((x.val : Nat) : Int)]) (Kp2 Bn Bh) (fun ys => ys = upto (spot n h hp) (2 * n)) (fun pre => ∃ k, k ≤ 2 * n ∧ pre = upto (spot n h hp) k) (2 * n) w := fun l J Jx W hW _ _ hY h0 =>
  round1_in F m hf hro hm l Bn Bh n h hn hp hh J Jx hY W ((hW.cell (p := ⟨Bn, 0, none⟩) hb).trans hBn) ((hW.cell (p := ⟨Bh, 0, none⟩) hb2).trans hBh) h0
end Go.Proofs.Ytpfbagkjhchojaa
