
/- The walk of the law ValuePluses. -/
import Derived.Test.YtniipochjgmclaaVal9
set_option linter.unusedVariables false
namespace Go.Proofs.Ytniipochjgmclaa
open Go.RowKit Go.ChangeShapes Go.ChangeAt Go.WideShapes
attribute [local go_sem ↓] load24
attribute [local go_sem] rowOf loadOf

def kinds_0 : List Sc := Sc.i .i64 :: List.replicate 16 (Sc.i .u8)

theorem keepcc {w W W0 : World} {B B0 B2 : Nat} {n : Int} {bs : List Int} {t : TypeId} {ob : Obj} (hb : Below w.heap.size w W) (h : w.heap[B2]? = some ob ∧ w.heap[B]? = some (.cells (val n bs) t (0, 0)) ∧ w.cell? ⟨B, 0, none⟩ = some (.int .i64 n) ∧ Below B0 W0 w ∧ B0 ≤ w.heap.size) : W.heap[B2]? = some ob ∧ W.heap[B]? = some (.cells (val n bs) t (0, 0)) ∧ W.cell? ⟨B, 0, none⟩ = some (.int .i64 n) ∧ Below B0 W0 W ∧ B0 ≤ W.heap.size :=
  ⟨row_below h.1 hb (row_lt h.1), keepc hb h.2⟩
theorem heldcc {W W0 : World} {B B2 B0 : Nat} {ob o2 : Obj} {p : Addr} {v : Value} (h : W.heap[B2]? = some o2 ∧ W.heap[B]? = some ob ∧ W.cell? p = some v ∧ Below B0 W0 W ∧ B0 ≤ W.heap.size) : Below B0 W0 W := h.2.2.2.1

set_option maxHeartbeats 2000000 in
theorem valuePluses_walk (w : World) (x0 : Array Value) (kk0 : Kinds kinds_0 x0.toList) (a1 : Int) (w1 : (Lit.int .u64 a1).wf = true) (a2 : Int) (w2 : (Lit.int .u64 a2).wf = true) :
    Calls Try.prog 6 #[.agg x0, .int .u64 a1, .int .u64 a2] w fun e w' => e = .returned (.bool true) ∧ Below w.heap.size w w' := by
  obtain ⟨n, bs, rfl, hn, hl, hbs⟩ := kinds_mk x0 kk0
  clear kk0 w1 w2
  have T0 := Lib.hid (val_size n bs hl)
  cases hv : vcheck n bs with
  | false =>
    have C1 := Lib.hid (fun W => show Calls Try.prog 12 #[.agg (val n bs)] W (Gives2 W (.bool false)) from by have := rcheck_any n bs W hl; rwa [hv] at this)
    clear hv hn hl hbs
    go_enter Try.func6, Try.ntmps6
    have g1 := heap_alloc_new w (Obj.cells (val n bs) 24)
    have b1 := (Below.refl w.heap.size w).alloc (Nat.le_refl _) (Obj.cells (val n bs) 24)
    have s1 : (w.alloc (Obj.cells (val n bs) 24)).heap.size = w.heap.size + 1 := by simp
    go_wp2_with (refine wpList_load_row rfl 24 (.tmp 3) rfl w.heap.size rfl 24 _ (0, 0) _ g1 Try.underlying24 rfl (by rw [T0.out]; exact size24) ?_)
    refine (C1.out _).mono ?_
    rintro e w2 ⟨rfl, h2⟩
    go_wp2_with fail
    refine (awake _).mono ?_
    rintro e w3 ⟨rfl, h3⟩
    go_wp2
    go_ret
    exact ⟨rfl, (b1.trans (h2.mono b1.size)).trans (h3.mono (by have := b1.size; have := h2.size; omega))⟩
  | true =>
    obtain ⟨c, hc⟩ : ∃ c, num (bs.take 8) = c := ⟨_, rfl⟩
    have hcb : 0 ≤ c ∧ c < 18446744073709551616 := by rw [← hc]; exact take8_bd hl hbs
    obtain ⟨s, hs⟩ : ∃ s, IntKind.u64.wrap (c + a1) = s := ⟨_, rfl⟩
    have hsb := wrap_bd (c + a1)
    rw [hs] at hsb
    obtain ⟨q, hq⟩ : ∃ q, IntKind.u64.wrap (a1 + a2) = q := ⟨_, rfl⟩
    obtain ⟨r, hr⟩ : ∃ r, IntKind.u64.wrap (s + a2) = r := ⟨_, rfl⟩
    have hr2 : IntKind.u64.wrap (c + q) = r := by
      rw [← hr, ← hs, ← hq, wrap_add_l, wrap_add_r, Int.add_assoc]
    have hz : IntKind.u64.wrap (c + 0) = c := by rw [Int.add_zero]; exact wrap_id hcb.1 hcb.2
    have C1 := Lib.hid (fun W => show Calls Try.prog 12 #[.agg (val n bs)] W (Gives2 W (.bool true)) from by have := rcheck_any n bs W hl; rwa [hv] at this)
    have C2 := Lib.hid (fun W => show Calls Try.prog 19 #[.agg (val n bs), .int .u64 a1] W (Gives2 W (.agg (val 8 (from_ s)))) from by have := plus_any n bs a1 W hl hbs; rwa [hc, hs] at this)
    have C3 := Lib.hid (fun W => show Calls Try.prog 19 #[.agg (val 8 (from_ s)), .int .u64 a2] W (Gives2 W (.agg (val 8 (from_ r)))) from by have := plus_any 8 (from_ s) a2 W (from_length s) (wf_from s); rwa [num_from s hsb.1 hsb.2, hr] at this)
    have C4 := Lib.hid (fun W => show Calls Try.prog 19 #[.agg (val n bs), .int .u64 q] W (Gives2 W (.agg (val 8 (from_ r)))) from by have := plus_any n bs q W hl hbs; rwa [hc, hr2] at this)
    have C5 := Lib.hid (fun W => show Calls Try.prog 19 #[.agg (val n bs), .int .u64 0] W (Gives2 W (.agg (val 8 (from_ c)))) from by have := plus_any n bs 0 W hl hbs; rwa [hc, hz] at this)
    have C6 := Lib.hid (fun W => show Calls Try.prog 17 #[.agg (val n bs)] W (Gives2 W (.int .u64 c)) from by have := number_any n bs W hl hbs; rwa [hc] at this)
    have C7 := Lib.hid (fun W => show Calls Try.prog 15 #[.int .u64 c] W (Gives2 W (.agg (val 8 (from_ c)))) from from_any c W hcb.1)
    have E1 := Lib.hid (fun W => eq_from r W)
    have E2 := Lib.hid (fun W => eq_from c W)
    have S0 := Lib.hid (show (val 0 val0).size = 17 by decide)
    have T1 := Lib.hid (show (val 8 (from_ s)).size = 17 from val_size _ _ (from_length s))
    clear hn hl hbs hv hc hcb hs hsb hr hr2 hz
    go_enter Try.func6, Try.ntmps6
    have g1 := heap_alloc_new w (Obj.cells (val n bs) 24)
    have b1 := (Below.refl w.heap.size w).alloc (Nat.le_refl _) (Obj.cells (val n bs) 24)
    have s1 : (w.alloc (Obj.cells (val n bs) 24)).heap.size = w.heap.size + 1 := by simp
    have hlt : w.heap.size < (w.alloc (Obj.cells (val n bs) 24)).heap.size := by omega
    go_wp2_with (refine wpList_load_row rfl 24 (.tmp 3) rfl w.heap.size rfl 24 _ (0, 0) _ g1 Try.underlying24 rfl (by rw [T0.out]; exact size24) ?_)
    refine (C1.out _).mono ?_
    rintro e w2 ⟨rfl, h2⟩
    have g2 := row_below g1 h2 hlt
    generalize hB0 : w.heap.size = B0
    rw [hB0] at g2 b1 s1
    have l2 := row_lt g2
    go_wp2_with (refine wpList_load_row rfl 24 (.tmp 3) rfl B0 rfl 24 _ (0, 0) _ g2 Try.underlying24 rfl (by rw [T0.out]; exact size24) ?_)
    refine (C2.out _).mono ?_
    rintro e w3 ⟨rfl, h3⟩
    have g3 := row_below g2 h3 l2
    have l3 := row_lt g3
    go_wp2_with (refine wpl_alloc run_alloc24 rfl rfl ?_)
    intro W4 g4 b4 s4
    have g40 := row_below g3 b4 l3
    go_wp2_with (refine wpl_store 24 (.tmp 7) (.tmp 14) rfl rfl _ (val 8 (from_ s)) rfl rfl 24 _ g4 (by rw [T1.out]; exact size24) (S0.out.trans T1.out.symm) (val_one _ _) ?_)
    intro W5 g5 b5 s5
    have g50 := row_grown g40 b5 (Nat.ne_of_lt l3)
    have Z1 : Below B0 w w3 := (b1.trans (h2.mono (by omega))).trans (h3.mono (by have := h2.size; omega))
    have Z2 : Below B0 w W4 := Z1.trans (b4.mono (by omega))
    have Z : Below B0 w W5 := Below.of_grown Z2 b5 (by omega) (by omega)
    have lz : B0 ≤ W5.heap.size := by omega
    generalize hB1 : w3.heap.size = B1
    rw [hB1] at g5
    have I : W5.drew.heap[B0]? = some (.cells (val n bs) 24 (0, 0)) ∧ W5.drew.heap[B1]? = some (.cells (val 8 (from_ s)) 24 (0, 0)) ∧ W5.drew.cell? ⟨B1, 0, none⟩ = some (.int .i64 8) ∧ Below B0 w W5.drew ∧ B0 ≤ W5.drew.heap.size := ⟨g50, g5, cell_val0 g5, Z.drew, lz⟩
    clear Z Z1 Z2 lz b1 s1 h2 h3 b4 b5 s4 s5 g1 g2 g3 g4 g5 g40 g50 l2 l3 hlt
    have t0 := T0.out
    have t1 := T1.out
    have E1' := E1.out
    have E2' := E2.out
    go_wp2
    go_region_held3 (fun W => W.heap[B0]? = some (.cells (val n bs) 24 (0, 0)) ∧ W.heap[B1]? = some (.cells (val 8 (from_ s)) 24 (0, 0)) ∧ W.cell? ⟨B1, 0, none⟩ = some (.int .i64 8) ∧ Below B0 w W ∧ B0 ≤ W.heap.size) (first | exact keepcc (by assumption) (by assumption) | exact I)
      (first
        | (go_at_call 17; refine (C6.out _).mono ?_; rintro e wx ⟨rfl, hx⟩)
        | (go_at_call_of 19 (Value.agg (val 8 (from_ s))); refine (C3.out _).mono ?_; rintro e wx ⟨rfl, hx⟩)
        | (go_at_call_of 19 (Value.int .u64 q); refine (C4.out _).mono ?_; rintro e wx ⟨rfl, hx⟩)
        | (go_at_call_of 19 (Value.int .u64 0); refine (C5.out _).mono ?_; rintro e wx ⟨rfl, hx⟩)
        | (go_at_call 15; refine (C7.out _).mono ?_; rintro e wx ⟨rfl, hx⟩)
        | (go_at_call 8; refine (awake _).mono ?_; rintro e wx ⟨rfl, hx⟩))
    all_goals go_wp2
    all_goals go_ret
    all_goals (subst hB0; exact ⟨rfl, heldcc (by assumption)⟩)
end Go.Proofs.Ytniipochjgmclaa
