
/- The walk of the law ValueBack. -/
import Derived.Test.YtniipochjgmclaaVal8
set_option linter.unusedVariables false
namespace Go.Proofs.Ytniipochjgmclaa
open Go.RowKit Go.ChangeShapes Go.ChangeAt Go.WideShapes
attribute [local go_sem ↓] load24
attribute [local go_sem] rowOf loadOf

theorem str_test (a b : ByteArray) : (a.toList == b.toList) = decide (a = b) := by
  rw [Bool.eq_iff_iff, beq_iff_eq, decide_eq_true_eq, ByteArray.toList_eq, ByteArray.toList_eq]
  constructor
  · intro h
    cases a; cases b
    rw [ByteArray.mk.injEq]
    exact Array.toList_inj.1 h
  · rintro rfl
    rfl
theorem take_pad (s : ByteArray) (h : s.size ≤ 16) : (pad (byt s) 16).take s.size = byt s := by
  unfold pad
  rw [List.take_append_of_le_length (by rw [byt_length]; exact Nat.le_refl _), ← byt_length s, List.take_length]
theorem vcheck_of (s : ByteArray) (h : s.size ≤ 16) : vcheck s.size (pad (byt s) 16) = true := by
  rw [vcheck_nat _ _ h, take_pad s h]; simp
theorem check_of (s : ByteArray) (h : s.size ≤ 16) (W : World) : Calls Try.prog 11 #[.agg (val (s.size : Int) (pad (byt s) 16))] W (Gives2 W (.bool true)) := by
  have := check_any s.size (pad (byt s) 16) W (pad_length _ _ (by rw [byt_length]; exact h)) (wf_pad 16 (byt_wf s))
  rwa [vcheck_of s h] at this
theorem text_of (s : ByteArray) (h : s.size ≤ 16) (W : World) : Calls Try.prog 13 #[.agg (val (s.size : Int) (pad (byt s) 16))] W (Gives2 W (.string s)) := by
  have := text_yes s.size (pad (byt s) 16) W (pad_length _ _ (by rw [byt_length]; exact h)) (wf_pad 16 (byt_wf s)) h (vcheck_of s h)
  rwa [take_pad s h, str_byt] at this
theorem eq_of (s t : ByteArray) (h : s.size ≤ 16) (h' : t.size ≤ 16) (W : World) : (Op.equalIn 10000 24 (.agg (val s.size (pad (byt s) 16))) (.agg (val t.size (pad (byt t) 16)))).run Try.prog W = .ok (decide (s = t)) W := by
  rw [eq_val s.size t.size _ _ (wf_nat16 h) (wf_nat16 h') (pad_length _ _ (by rw [byt_length]; exact h)) (pad_length _ _ (by rw [byt_length]; exact h')) (wf_pad 16 (byt_wf s)) (wf_pad 16 (byt_wf t)) W]
  congr 1
  rw [Bool.eq_iff_iff, decide_eq_true_eq, decide_eq_true_eq]
  constructor
  · rintro ⟨h1, h2⟩
    have h3 : s.size = t.size := by omega
    apply byt_inj
    rw [← take_pad s h, ← take_pad t h', h2, h3]
  · rintro rfl
    exact ⟨rfl, rfl⟩
theorem eq_zero (W : World) : (Op.equalIn 10000 24 (.agg (val 0 val0)) (.agg #[.int .i64 0, .int .u8 0, .int .u8 0, .int .u8 0, .int .u8 0, .int .u8 0, .int .u8 0, .int .u8 0, .int .u8 0, .int .u8 0, .int .u8 0, .int .u8 0, .int .u8 0, .int .u8 0, .int .u8 0, .int .u8 0, .int .u8 0])).run Try.prog W = .ok true W := eq_val 0 0 val0 val0 (by decide) (by decide) (by decide) (by decide) (by decide) (by decide) W


set_option maxHeartbeats 1000000 in
theorem back_ok_ok (a0 a1 : ByteArray) (w : World) (m0 : ¬ (a0.size : Int) > 100) (m1 : ¬ (a1.size : Int) > 100) (h0 : a0.size ≤ 16) (h1 : a1.size ≤ 16) :
    Calls Try.prog 4 #[.string a0, .string a1] w fun e w' => e = .returned (.bool true) ∧ Below w.heap.size w w' := by
  have C0 := Lib.hid (fun W => show Calls Try.prog 9 #[.string a0] W (Gives2 W (.tuple #[.agg (val (a0.size : Int) (pad (byt a0) 16)), .int .i64 0])) from vof_ok a0 W h0)
  have C1 := Lib.hid (fun W => show Calls Try.prog 9 #[.string a1] W (Gives2 W (.tuple #[.agg (val (a1.size : Int) (pad (byt a1) 16)), .int .i64 0])) from vof_ok a1 W h1)
  have S0 := Lib.hid (show (val 0 val0).size = 17 by decide)
  have T0 := Lib.hid (show (val (a0.size : Int) (pad (byt a0) 16)).size = 17 from val_size _ _ (pad_length _ _ (by rw [byt_length]; exact h0)))
  have T1 := Lib.hid (show (val (a1.size : Int) (pad (byt a1) 16)).size = 17 from val_size _ _ (pad_length _ _ (by rw [byt_length]; exact h1)))
  have CC := Lib.hid (fun W => show Calls Try.prog 11 #[.agg (val (a0.size : Int) (pad (byt a0) 16))] W (Gives2 W (.bool true)) from check_of a0 h0 W)
  have CT := Lib.hid (fun W => show Calls Try.prog 13 #[.agg (val (a0.size : Int) (pad (byt a0) 16))] W (Gives2 W (.string a0)) from text_of a0 h0 W)
  have k0 : ((a0.size : Int) ≤ 16) := by omega
  have EV := Lib.hid (fun W => eq_of a0 a1 h0 h1 W)
  obtain ⟨b, hb⟩ : ∃ b, decide (a0 = a1) = b := ⟨_, rfl⟩
  rw [hb] at EV
  have hb2 : (a0.toList == a1.toList) = b := by rw [← hb]; exact str_test a0 a1
  clear h0 h1
  go_enter Try.func4, Try.ntmps4
  go_wp2_with fail
  refine (C0.out _).mono ?_
  rintro e w1 ⟨rfl, h1⟩
  go_wp2_with (refine wpl_alloc run_alloc24 rfl rfl ?_)
  intro W1 g1 b1 s1
  go_wp2_with (refine wpl_store 24 (.tmp 5) (.tmp 21) rfl rfl _ (val (a0.size : Int) (pad (byt a0) 16)) rfl rfl 24 _ g1 (by rw [T0.out]; exact size24) (S0.out.trans T0.out.symm) (val_one _ _) ?_)
  intro W2 g2 b2 s2
  generalize hB1 : w1.heap.size = B1
  rw [hB1] at g2
  have L2 := Lib.hid (row_lt g2)
  go_wp2_with fail
  refine (C1.out _).mono ?_
  rintro e w3 ⟨rfl, h3⟩
  have g3 := row_below g2 h3 L2.out
  have L3 := Lib.hid (row_lt g3)
  go_wp2_with (refine wpl_alloc run_alloc24 rfl rfl ?_)
  intro W4 g4 b4 s4
  have g41 := row_below g3 b4 L3.out
  go_wp2_with (refine wpl_store 24 (.tmp 7) (.tmp 26) rfl rfl _ (val (a1.size : Int) (pad (byt a1) 16)) rfl rfl 24 _ g4 (by rw [T1.out]; exact size24) (S0.out.trans T1.out.symm) (val_one _ _) ?_)
  intro W5 g5 b5 s5
  have g51 := row_grown g41 b5 (Nat.ne_of_lt L3.out)
  have Z := Lib.hid (Below.of_grown (h1.trans (b1.mono h1.size)) b2 (by have := b1.size; have := h1.size; omega) h1.size)
  have Z2 := Lib.hid ((Z.out.trans (h3.mono Z.out.size)).trans (b4.mono (by have := Z.out.size; have := h3.size; omega)))
  have Z3 := Lib.hid (Below.of_grown Z2.out b5 (Z2.out.size) (by have := Z.out.size; have := h3.size; omega))
  clear Z Z2 b5 b4 h3 b2 b1 h1 s5 s4 s2 s1 g41 g4 g3 g2 g1
  generalize hB3 : w3.heap.size = B3
  rw [hB3] at g5
  have t0 := T0.out
  have t1 := T1.out
  have E' := EV.out
  go_wp2_with fail
  refine (CC.out _).mono ?_
  rintro e w6 ⟨rfl, h6⟩
  replace g51 := row_below g51 h6 (row_lt g51)
  replace g5 := row_below g5 h6 (row_lt g5)
  have Z4 := Lib.hid (Z3.out.trans (h6.mono Z3.out.size))
  clear CC Z3 h6
  go_wp2_with fail
  refine (CT.out _).mono ?_
  rintro e w7 ⟨rfl, h7⟩
  replace g51 := row_below g51 h7 (row_lt g51)
  replace g5 := row_below g5 h7 (row_lt g5)
  have Z5 := Lib.hid (Z4.out.trans (h7.mono Z4.out.size))
  clear CT Z4 h7
  go_wp2_with fail
  refine (awake _).mono ?_
  rintro e w9 ⟨rfl, h9⟩
  go_wp2
  go_ret
  exact ⟨rfl, Z5.out.trans (h9.mono Z5.out.size)⟩

set_option maxHeartbeats 1000000 in
theorem back_ok_big (a0 a1 : ByteArray) (w : World) (m0 : ¬ (a0.size : Int) > 100) (m1 : ¬ (a1.size : Int) > 100) (h0 : a0.size ≤ 16) (h1 : 16 < a1.size) :
    Calls Try.prog 4 #[.string a0, .string a1] w fun e w' => e = .returned (.bool true) ∧ Below w.heap.size w w' := by
  have C0 := Lib.hid (fun W => show Calls Try.prog 9 #[.string a0] W (Gives2 W (.tuple #[.agg (val (a0.size : Int) (pad (byt a0) 16)), .int .i64 0])) from vof_ok a0 W h0)
  have C1 := Lib.hid (fun W => show Calls Try.prog 9 #[.string a1] W (Gives2 W (.tuple #[.agg (val 0 val0), .int .i64 2])) from vof_big a1 W h1)
  have S0 := Lib.hid (show (val 0 val0).size = 17 by decide)
  have T0 := Lib.hid (show (val (a0.size : Int) (pad (byt a0) 16)).size = 17 from val_size _ _ (pad_length _ _ (by rw [byt_length]; exact h0)))
  have T1 := Lib.hid (show (val 0 val0).size = 17 from by decide)
  have CC := Lib.hid (fun W => show Calls Try.prog 11 #[.agg (val (a0.size : Int) (pad (byt a0) 16))] W (Gives2 W (.bool true)) from check_of a0 h0 W)
  have CT := Lib.hid (fun W => show Calls Try.prog 13 #[.agg (val (a0.size : Int) (pad (byt a0) 16))] W (Gives2 W (.string a0)) from text_of a0 h0 W)
  have k0 : ((a0.size : Int) ≤ 16) := by omega
  clear h0 h1
  go_enter Try.func4, Try.ntmps4
  go_wp2_with fail
  refine (C0.out _).mono ?_
  rintro e w1 ⟨rfl, h1⟩
  go_wp2_with (refine wpl_alloc run_alloc24 rfl rfl ?_)
  intro W1 g1 b1 s1
  go_wp2_with (refine wpl_store 24 (.tmp 5) (.tmp 21) rfl rfl _ (val (a0.size : Int) (pad (byt a0) 16)) rfl rfl 24 _ g1 (by rw [T0.out]; exact size24) (S0.out.trans T0.out.symm) (val_one _ _) ?_)
  intro W2 g2 b2 s2
  generalize hB1 : w1.heap.size = B1
  rw [hB1] at g2
  have L2 := Lib.hid (row_lt g2)
  go_wp2_with fail
  refine (C1.out _).mono ?_
  rintro e w3 ⟨rfl, h3⟩
  have g3 := row_below g2 h3 L2.out
  have L3 := Lib.hid (row_lt g3)
  go_wp2_with (refine wpl_alloc run_alloc24 rfl rfl ?_)
  intro W4 g4 b4 s4
  have g41 := row_below g3 b4 L3.out
  go_wp2_with (refine wpl_store 24 (.tmp 7) (.tmp 26) rfl rfl _ (val 0 val0) rfl rfl 24 _ g4 (by rw [T1.out]; exact size24) (S0.out.trans T1.out.symm) (val_one _ _) ?_)
  intro W5 g5 b5 s5
  have g51 := row_grown g41 b5 (Nat.ne_of_lt L3.out)
  have Z := Lib.hid (Below.of_grown (h1.trans (b1.mono h1.size)) b2 (by have := b1.size; have := h1.size; omega) h1.size)
  have Z2 := Lib.hid ((Z.out.trans (h3.mono Z.out.size)).trans (b4.mono (by have := Z.out.size; have := h3.size; omega)))
  have Z3 := Lib.hid (Below.of_grown Z2.out b5 (Z2.out.size) (by have := Z.out.size; have := h3.size; omega))
  clear Z Z2 b5 b4 h3 b2 b1 h1 s5 s4 s2 s1 g41 g4 g3 g2 g1
  generalize hB3 : w3.heap.size = B3
  rw [hB3] at g5
  have t0 := T0.out
  have t1 := T1.out
  go_wp2_with fail
  refine (CC.out _).mono ?_
  rintro e w6 ⟨rfl, h6⟩
  replace g51 := row_below g51 h6 (row_lt g51)
  replace g5 := row_below g5 h6 (row_lt g5)
  have Z4 := Lib.hid (Z3.out.trans (h6.mono Z3.out.size))
  clear CC Z3 h6
  go_wp2_with fail
  refine (CT.out _).mono ?_
  rintro e w7 ⟨rfl, h7⟩
  replace g51 := row_below g51 h7 (row_lt g51)
  replace g5 := row_below g5 h7 (row_lt g5)
  have Z5 := Lib.hid (Z4.out.trans (h7.mono Z4.out.size))
  clear CT Z4 h7
  go_wp2_with fail
  refine (awake _).mono ?_
  rintro e w9 ⟨rfl, h9⟩
  go_wp2
  go_ret
  exact ⟨rfl, Z5.out.trans (h9.mono Z5.out.size)⟩

set_option maxHeartbeats 1000000 in
theorem back_big_ok (a0 a1 : ByteArray) (w : World) (m0 : ¬ (a0.size : Int) > 100) (m1 : ¬ (a1.size : Int) > 100) (h0 : 16 < a0.size) (h1 : a1.size ≤ 16) :
    Calls Try.prog 4 #[.string a0, .string a1] w fun e w' => e = .returned (.bool true) ∧ Below w.heap.size w w' := by
  have C0 := Lib.hid (fun W => show Calls Try.prog 9 #[.string a0] W (Gives2 W (.tuple #[.agg (val 0 val0), .int .i64 2])) from vof_big a0 W h0)
  have C1 := Lib.hid (fun W => show Calls Try.prog 9 #[.string a1] W (Gives2 W (.tuple #[.agg (val (a1.size : Int) (pad (byt a1) 16)), .int .i64 0])) from vof_ok a1 W h1)
  have S0 := Lib.hid (show (val 0 val0).size = 17 by decide)
  have T0 := Lib.hid (show (val 0 val0).size = 17 from by decide)
  have T1 := Lib.hid (show (val (a1.size : Int) (pad (byt a1) 16)).size = 17 from val_size _ _ (pad_length _ _ (by rw [byt_length]; exact h1)))
  have k0 : ¬ ((a0.size : Int) ≤ 16) := by omega
  have E := Lib.hid (fun W => eq_zero W)
  clear h0 h1
  go_enter Try.func4, Try.ntmps4
  go_wp2_with fail
  refine (C0.out _).mono ?_
  rintro e w1 ⟨rfl, h1⟩
  go_wp2_with (refine wpl_alloc run_alloc24 rfl rfl ?_)
  intro W1 g1 b1 s1
  go_wp2_with (refine wpl_store 24 (.tmp 5) (.tmp 21) rfl rfl _ (val 0 val0) rfl rfl 24 _ g1 (by rw [T0.out]; exact size24) (S0.out.trans T0.out.symm) (val_one _ _) ?_)
  intro W2 g2 b2 s2
  generalize hB1 : w1.heap.size = B1
  rw [hB1] at g2
  have L2 := Lib.hid (row_lt g2)
  go_wp2_with fail
  refine (C1.out _).mono ?_
  rintro e w3 ⟨rfl, h3⟩
  have g3 := row_below g2 h3 L2.out
  have L3 := Lib.hid (row_lt g3)
  go_wp2_with (refine wpl_alloc run_alloc24 rfl rfl ?_)
  intro W4 g4 b4 s4
  have g41 := row_below g3 b4 L3.out
  go_wp2_with (refine wpl_store 24 (.tmp 7) (.tmp 26) rfl rfl _ (val (a1.size : Int) (pad (byt a1) 16)) rfl rfl 24 _ g4 (by rw [T1.out]; exact size24) (S0.out.trans T1.out.symm) (val_one _ _) ?_)
  intro W5 g5 b5 s5
  have g51 := row_grown g41 b5 (Nat.ne_of_lt L3.out)
  have Z := Lib.hid (Below.of_grown (h1.trans (b1.mono h1.size)) b2 (by have := b1.size; have := h1.size; omega) h1.size)
  have Z2 := Lib.hid ((Z.out.trans (h3.mono Z.out.size)).trans (b4.mono (by have := Z.out.size; have := h3.size; omega)))
  have Z3 := Lib.hid (Below.of_grown Z2.out b5 (Z2.out.size) (by have := Z.out.size; have := h3.size; omega))
  clear Z Z2 b5 b4 h3 b2 b1 h1 s5 s4 s2 s1 g41 g4 g3 g2 g1
  generalize hB3 : w3.heap.size = B3
  rw [hB3] at g5
  have t0 := T0.out
  have t1 := T1.out
  have E' := E.out
  go_wp2_with fail
  refine (awake _).mono ?_
  rintro e w9 ⟨rfl, h9⟩
  go_wp2
  go_ret
  exact ⟨rfl, Z3.out.trans (h9.mono Z3.out.size)⟩

set_option maxHeartbeats 1000000 in
theorem back_big_big (a0 a1 : ByteArray) (w : World) (m0 : ¬ (a0.size : Int) > 100) (m1 : ¬ (a1.size : Int) > 100) (h0 : 16 < a0.size) (h1 : 16 < a1.size) :
    Calls Try.prog 4 #[.string a0, .string a1] w fun e w' => e = .returned (.bool true) ∧ Below w.heap.size w w' := by
  have C0 := Lib.hid (fun W => show Calls Try.prog 9 #[.string a0] W (Gives2 W (.tuple #[.agg (val 0 val0), .int .i64 2])) from vof_big a0 W h0)
  have C1 := Lib.hid (fun W => show Calls Try.prog 9 #[.string a1] W (Gives2 W (.tuple #[.agg (val 0 val0), .int .i64 2])) from vof_big a1 W h1)
  have S0 := Lib.hid (show (val 0 val0).size = 17 by decide)
  have T0 := Lib.hid (show (val 0 val0).size = 17 from by decide)
  have T1 := Lib.hid (show (val 0 val0).size = 17 from by decide)
  have k0 : ¬ ((a0.size : Int) ≤ 16) := by omega
  have E := Lib.hid (fun W => eq_zero W)
  clear h0 h1
  go_enter Try.func4, Try.ntmps4
  go_wp2_with fail
  refine (C0.out _).mono ?_
  rintro e w1 ⟨rfl, h1⟩
  go_wp2_with (refine wpl_alloc run_alloc24 rfl rfl ?_)
  intro W1 g1 b1 s1
  go_wp2_with (refine wpl_store 24 (.tmp 5) (.tmp 21) rfl rfl _ (val 0 val0) rfl rfl 24 _ g1 (by rw [T0.out]; exact size24) (S0.out.trans T0.out.symm) (val_one _ _) ?_)
  intro W2 g2 b2 s2
  generalize hB1 : w1.heap.size = B1
  rw [hB1] at g2
  have L2 := Lib.hid (row_lt g2)
  go_wp2_with fail
  refine (C1.out _).mono ?_
  rintro e w3 ⟨rfl, h3⟩
  have g3 := row_below g2 h3 L2.out
  have L3 := Lib.hid (row_lt g3)
  go_wp2_with (refine wpl_alloc run_alloc24 rfl rfl ?_)
  intro W4 g4 b4 s4
  have g41 := row_below g3 b4 L3.out
  go_wp2_with (refine wpl_store 24 (.tmp 7) (.tmp 26) rfl rfl _ (val 0 val0) rfl rfl 24 _ g4 (by rw [T1.out]; exact size24) (S0.out.trans T1.out.symm) (val_one _ _) ?_)
  intro W5 g5 b5 s5
  have g51 := row_grown g41 b5 (Nat.ne_of_lt L3.out)
  have Z := Lib.hid (Below.of_grown (h1.trans (b1.mono h1.size)) b2 (by have := b1.size; have := h1.size; omega) h1.size)
  have Z2 := Lib.hid ((Z.out.trans (h3.mono Z.out.size)).trans (b4.mono (by have := Z.out.size; have := h3.size; omega)))
  have Z3 := Lib.hid (Below.of_grown Z2.out b5 (Z2.out.size) (by have := Z.out.size; have := h3.size; omega))
  clear Z Z2 b5 b4 h3 b2 b1 h1 s5 s4 s2 s1 g41 g4 g3 g2 g1
  generalize hB3 : w3.heap.size = B3
  rw [hB3] at g5
  have t0 := T0.out
  have t1 := T1.out
  have E' := E.out
  go_wp2_with fail
  refine (awake _).mono ?_
  rintro e w9 ⟨rfl, h9⟩
  go_wp2
  go_ret
  exact ⟨rfl, Z3.out.trans (h9.mono Z3.out.size)⟩

set_option maxHeartbeats 400000 in
theorem valueBack_walk (w : World) (a0 : ByteArray) (w0 : a0.size ≤ maxLen) (a1 : ByteArray) (w1 : a1.size ≤ maxLen) :
    Calls Try.prog 4 #[.string a0, .string a1] w fun e w' => e = .returned (.bool true) ∧ Below w.heap.size w w' := by
  by_cases m0 : (a0.size : Int) > 100
  · clear w0 w1
    go_enter Try.func4, Try.ntmps4
    go_wp2_with (go_at_call 8; refine (awake _).mono ?_; rintro e w9 ⟨rfl, h9⟩)
    go_ret
    exact ⟨rfl, h9⟩
  by_cases m1 : (a1.size : Int) > 100
  · clear w0 w1
    go_enter Try.func4, Try.ntmps4
    go_wp2_with (go_at_call 8; refine (awake _).mono ?_; rintro e w9 ⟨rfl, h9⟩)
    go_ret
    exact ⟨rfl, h9⟩
  by_cases h0 : a0.size ≤ 16 <;> by_cases h1 : a1.size ≤ 16
  · exact back_ok_ok a0 a1 w m0 m1 h0 h1
  · exact back_ok_big a0 a1 w m0 m1 h0 (by omega)
  · exact back_big_ok a0 a1 w m0 m1 (by omega) h1
  · exact back_big_big a0 a1 w m0 m1 (by omega) (by omega)
end Go.Proofs.Ytniipochjgmclaa
