
/- Layer 4: awake. -/
import Derived.Test.YtniipochjgmclaaVal7
import Derived.Test.YtniipochjgmclaaLaw
set_option linter.unusedVariables false
namespace Go.Proofs.Ytniipochjgmclaa
open Go.RowKit Go.ChangeShapes Go.ChangeAt Go.WideShapes

def seventeen : ByteArray := { data := #[115, 101, 118, 101, 110, 116, 101, 101, 110, 32, 98, 121, 116, 101, 115, 32, 33] }
def oneByte : ByteArray := { data := #[1] }

attribute [local go_sem ↓] load24
attribute [local go_sem] rowOf loadOf

theorem run_alloc24 (w : World) : (Instr.alloc 24 true (.tuple #[])).run Try.prog w = .ok (.pointer (some ⟨w.heap.size, 0, none⟩)) (w.alloc (.cells (val 0 val0) 24)) := by
  simp [go_sem, val, val0]
  done

theorem run_field (w : World) : (Instr.field 24 (.agg #[.int .i64 8, .int .u8 7, .int .u8 0, .int .u8 0, .int .u8 0, .int .u8 0, .int .u8 0, .int .u8 0, .int .u8 0, .int .u8 0, .int .u8 0, .int .u8 0, .int .u8 0, .int .u8 0, .int .u8 0, .int .u8 0, .int .u8 0]) 1).run Try.prog w = .ok (.agg #[.int .u8 7, .int .u8 0, .int .u8 0, .int .u8 0, .int .u8 0, .int .u8 0, .int .u8 0, .int .u8 0, .int .u8 0, .int .u8 0, .int .u8 0, .int .u8 0, .int .u8 0, .int .u8 0, .int .u8 0, .int .u8 0]) w := by kernel_rfl
theorem run_index (w : World) : (Instr.index 22 (.agg #[.int .u8 7, .int .u8 0, .int .u8 0, .int .u8 0, .int .u8 0, .int .u8 0, .int .u8 0, .int .u8 0, .int .u8 0, .int .u8 0, .int .u8 0, .int .u8 0, .int .u8 0, .int .u8 0, .int .u8 0, .int .u8 0]) (.int .i64 0)).run Try.prog w = .ok (.int .u8 7) w := by kernel_rfl

theorem wf_0 (n : Int) (h : 0 ≤ n ∧ n < 256) (k : Nat) : ∀ b ∈ (n :: List.replicate k 0), (Lit.int .u8 b).wf = true := by
  intro b hb
  rcases List.mem_cons.1 hb with rfl | hb
  · exact wf_u8 h.1 h.2
  · rw [List.eq_of_mem_replicate hb]; decide

theorem cell_val0 {W : World} {g : Nat} {n : Int} {bs : List Int} {t : TypeId} (h : W.heap[g]? = some (.cells (val n bs) t (0, 0))) : W.cell? ⟨g, 0, none⟩ = some (.int .i64 n) := by
  rw [cell_of_row W g _ _ _ _ h]; exact val_0 n bs

def one1 : List Int := 1 :: List.replicate 15 0
def two1 : List Int := 0 :: 1 :: List.replicate 14 0
def sev1 : List Int := 7 :: List.replicate 15 0

set_option maxHeartbeats 1000000 in
theorem awake (w : World) : Calls Try.prog 8 #[] w (Gives2 w (.bool true)) := by
  have C1 := Lib.hid (fun W => show Calls Try.prog 9 #[.string { data := #[1] }] W (Gives2 W (.tuple #[.agg (val 1 one1), .int .i64 0])) from vof_ok oneByte W (by decide))
  have C2 := Lib.hid (fun W => show Calls Try.prog 9 #[.string seventeen] W (Gives2 W (.tuple #[.agg (val 0 val0), .int .i64 2])) from vof_big seventeen W (by decide))
  have C3 := Lib.hid (fun W => show Calls Try.prog 19 #[.agg (val 1 one1), .int .u64 255] W (Gives2 W (.agg (val 8 two1))) from plus_any 1 one1 255 W (by decide) (wf_0 1 (by decide) _))
  have C4 := Lib.hid (fun W => show Calls Try.prog 17 #[.agg (val 1 one1)] W (Gives2 W (.int .u64 1)) from number_any 1 one1 W (by decide) (wf_0 1 (by decide) _))
  have C5 := Lib.hid (fun W => show Calls Try.prog 13 #[.agg (val 1 one1)] W (Gives2 W (.string { data := #[1] })) from text_yes 1 one1 W (by decide) (wf_0 1 (by decide) _) (by decide) (by decide))
  have C6 := Lib.hid (fun W => show Calls Try.prog 11 #[.agg (val 8 two1)] W (Gives2 W (.bool true)) from check_any 8 two1 W (by decide) (by decide))
  have C7 := Lib.hid (fun W => show Calls Try.prog 11 #[.agg (val (-1) val0)] W (Gives2 W (.bool false)) from check_any (-1) val0 W (by decide) (by decide))
  have C8 := Lib.hid (fun W => show Calls Try.prog 17 #[.agg (val 0 val0)] W (Gives2 W (.int .u64 0)) from number_any 0 val0 W (by decide) (by decide))
  have C9 := Lib.hid (fun W => show Calls Try.prog 15 #[.int .u64 7] W (Gives2 W (.agg #[.int .i64 8, .int .u8 7, .int .u8 0, .int .u8 0, .int .u8 0, .int .u8 0, .int .u8 0, .int .u8 0, .int .u8 0, .int .u8 0, .int .u8 0, .int .u8 0, .int .u8 0, .int .u8 0, .int .u8 0, .int .u8 0, .int .u8 0])) from from_any 7 W (by decide))
  have E := Lib.hid (fun W => show (Op.equalIn 10000 24 (.agg (val 0 val0)) (.agg #[.int .i64 0, .int .u8 0, .int .u8 0, .int .u8 0, .int .u8 0, .int .u8 0, .int .u8 0, .int .u8 0, .int .u8 0, .int .u8 0, .int .u8 0, .int .u8 0, .int .u8 0, .int .u8 0, .int .u8 0, .int .u8 0, .int .u8 0])).run Try.prog W = .ok true W from eq_val 0 0 val0 val0 (by decide) (by decide) (by decide) (by decide) (by decide) (by decide) W)
  have S0 := Lib.hid (show (val 0 val0).size = 17 by decide)
  have S1 := Lib.hid (show (val 1 one1).size = 17 by decide)
  have S2 := Lib.hid (show (val 8 two1).size = 17 by decide)
  have HF := run_field
  have HI := run_index
  go_enter Try.func8, Try.ntmps8
  go_wp2_with fail
  refine (C1.out _).mono ?_
  rintro e w1 ⟨rfl, h1⟩
  go_wp2_with (refine wpl_alloc run_alloc24 rfl rfl ?_)
  intro W1 g1 b1 s1
  go_wp2_with (refine wpl_store 24 (.tmp 1) (.tmp 8) rfl rfl _ (val 1 one1) rfl rfl 24 _ g1 (by rw [S1.out]; exact size24) (by rw [S0.out, S1.out]) (val_one _ _) ?_)
  intro W2 g2 b2 s2
  generalize hB1 : w1.heap.size = B1
  rw [hB1] at g2
  have L2 := Lib.hid (row_lt g2)
  go_wp2_with fail
  refine (C2.out _).mono ?_
  rintro e w3 ⟨rfl, h3⟩
  have g3 := row_below g2 h3 L2.out
  have L3 := Lib.hid (row_lt g3)
  go_wp2_with (refine wpl_alloc run_alloc24 rfl rfl ?_)
  intro W4 g4 b4 s4
  have g41 := row_below g3 b4 L3.out
  go_wp2_with (refine wpl_store 24 (.tmp 3) (.tmp 12) rfl rfl _ (val 0 val0) rfl rfl 24 _ g4 (by rw [S0.out]; exact size24) rfl (val_one _ _) ?_)
  intro W5 g5 b5 s5
  have g51 := row_grown g41 b5 (Nat.ne_of_lt L3.out)
  have N13 := L3.out
  have N13 : Hid (B1 ≠ w3.heap.size) := Lib.hid (Nat.ne_of_lt L3.out)
  have Z := Lib.hid (Below.of_grown (h1.trans (b1.mono h1.size)) b2 (by have := b1.size; have := h1.size; omega) h1.size)
  have Z2 := Lib.hid ((Z.out.trans (h3.mono Z.out.size)).trans (b4.mono (by have := Z.out.size; have := h3.size; omega)))
  have Z3 := Lib.hid (Below.of_grown Z2.out b5 (Z2.out.size) (by have := Z.out.size; have := h3.size; omega))
  clear Z Z2 b5 b4 h3 b2 b1 h1 s5 s4 s2 s1 g41 g4 g3 g2 g1
  generalize hB3 : w3.heap.size = B3
  rw [hB3] at g5 N13
  have L5 := Lib.hid (row_lt g51)
  have L53 := Lib.hid (row_lt g5)
  go_wp2_with (refine wpList_load_row rfl 24 (.tmp 1) rfl B1 rfl 24 _ (0, 0) _ g51 Try.underlying24 rfl (by rw [S1.out]; exact size24) ?_)
  refine (C3.out _).mono ?_
  rintro e w6 ⟨rfl, h6⟩
  have g61 := row_below g51 h6 L5.out
  have g63 := row_below g5 h6 L53.out
  have L6 := Lib.hid (row_lt g61)
  have L63 := Lib.hid (row_lt g63)
  go_wp2_with (refine wpl_alloc run_alloc24 rfl rfl ?_)
  intro W7 g7 b7 s7
  have g71 := row_below g61 b7 L6.out
  have g73 := row_below g63 b7 L63.out
  go_wp2_with (refine wpl_store 24 (.tmp 5) (.tmp 15) rfl rfl _ (val 8 two1) rfl rfl 24 _ g7 (by rw [S2.out]; exact size24) (by rw [S0.out, S2.out]) (val_one _ _) ?_)
  intro W8 g8 b8 s8
  have g81 := row_grown g71 b8 (Nat.ne_of_lt L6.out)
  have g83 := row_grown g73 b8 (Nat.ne_of_lt L63.out)
  have Z4 := Lib.hid ((Z3.out.trans (h6.mono Z3.out.size)).trans (b7.mono (by have := Z3.out.size; have := h6.size; omega)))
  have Z5 := Lib.hid (Below.of_grown Z4.out b8 (Z4.out.size) (by have := Z3.out.size; have := h6.size; omega))
  clear Z3 Z4 b8 b7 h6 s8 s7 g71 g73 g7 g61 g63
  generalize hB5 : w6.heap.size = B5
  rw [hB5] at g8
  have E' := E.out
  have s0 := S0.out
  have s1 := S1.out
  have s2 := S2.out
  go_wp2_with fail
  refine (C4.out _).mono ?_
  rintro e w9 ⟨rfl, h9⟩
  replace g81 := row_below g81 h9 (row_lt g81)
  replace g8 := row_below g8 h9 (row_lt g8)
  have Z6 := Lib.hid (Z5.out.trans (h9.mono Z5.out.size))
  have c0 := cell_val0 g8
  have c1 : w9.cell? ⟨B5, 1, none⟩ = some (.int .u8 0) := cell_val g8 0 (by decide)
  have c2 : w9.cell? ⟨B5, 2, none⟩ = some (.int .u8 1) := cell_val g8 1 (by decide)
  clear Z5 h9 g83 s0 E'
  go_wp2_with (first
    | (refine (C5.out _).mono ?_; rintro e w10 ⟨rfl, h10⟩; replace g8 := row_below g8 h10 (row_lt g8); have Z7 := Lib.hid (Z6.out.trans (h10.mono Z6.out.size)); clear Z6 h10 g81 c0 c1 c2 s1)
    | (refine (C6.out _).mono ?_; rintro e w11 ⟨rfl, h11⟩; have Z8 := Lib.hid (Z7.out.trans (h11.mono Z7.out.size)); clear C6 Z7 h11 g8 s2)
    | (refine (C7.out _).mono ?_; rintro e w12 ⟨rfl, h12⟩; have Z9 := Lib.hid (Z8.out.trans (h12.mono Z8.out.size)); clear Z8 h12)
    | (refine (C8.out _).mono ?_; rintro e w13 ⟨rfl, h13⟩; have Z10 := Lib.hid (Z9.out.trans (h13.mono Z9.out.size)); clear Z9 h13)
    | (refine (C9.out _).mono ?_; rintro e w14 ⟨rfl, h14⟩; have Z11 := Lib.hid (Z10.out.trans (h14.mono Z10.out.size)); clear Z10 h14))
  go_ret
  exact ⟨rfl, Z11.out⟩
end Go.Proofs.Ytniipochjgmclaa
