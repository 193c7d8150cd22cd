/- slices: Index, Contains, IndexFunc, BinarySearch -/
import Derived.Test.YtlakembncfkimaaFx
import Derived.Test.YtlakembncfkimaaM
import Derived.Test.YtlakembncfkimaaS11
set_option linter.unusedVariables false
set_option linter.unusedSimpArgs false
namespace Go.Proofs.Ytlakembncfkimaa
open Go.Sep Go.RowKit

/-- How one who waits lies in cells. -/
def encW : Enc Wt := ⟨2, fun w => [.int .i64 w.1, .bool w.2], fun _ => rfl, fun a u h => by simp at h; rcases h with rfl | rfl <;> rfl, by decide⟩
theorem take_not {l : List Int} {x y : Int} {k : Nat} (h : x ∉ l.take k) (hy : l[k]? = some y) (hn : ¬ x = y) : x ∉ l.take (k + 1) := by
  rw [List.take_add_one, hy]; simp; exact ⟨h, hn⟩
theorem take_notW {l : List Wt} {x : Int} {y : Wt} {k : Nat} (h : x ∉ (l.take k).map Prod.fst) (hy : l[k]? = some y) (hn : ¬ y.1 = x) : x ∉ (l.take (k + 1)).map Prod.fst := by
  rw [List.take_add_one, hy, List.map_append, List.mem_append, not_or]; exact ⟨h, by simp; exact fun e => hn e.symm⟩
/-- Where a number stands; -1. -/
def At (l : List Int) (x z : Int) : Prop := (z = -1 ∧ x ∉ l) ∨ ∃ k : Nat, z = (k : Int) ∧ l[k]? = some x
def AtW (l : List Wt) (x z : Int) : Prop := (z = -1 ∧ x ∉ l.map Prod.fst) ∨ ∃ (k : Nat) (y : Wt), z = (k : Int) ∧ l[k]? = some y ∧ y.1 = x
theorem At.iff {l : List Int} {x z : Int} (h : At l x z) : decide (0 ≤ z) = decide (x ∈ l) := by
  rcases h with ⟨rfl, h⟩ | ⟨k, rfl, h⟩
  · simp [h]
  · have := List.mem_of_getElem? h; simp [this]
theorem AtW.iff {l : List Wt} {x z : Int} (h : AtW l x z) : decide (z < 0) = decide (x ∉ l.map Prod.fst) := by
  rcases h with ⟨rfl, h⟩ | ⟨k, y, rfl, h, e⟩
  · simp [h]
  · have := List.mem_map_of_mem (f := Prod.fst) (List.mem_of_getElem? h)
    rw [e] at this
    rw [decide_eq_decide]
    exact ⟨fun hh => by omega, fun hh => absurd this hh⟩
set_option maxRecDepth 100000 in
set_option maxHeartbeats 1000000 in
theorem nan1_spec (x : Int) : Con Try.prog 54 [.int .i64 x] (fun _ => True) [] (fun _ : Unit => .bool false) (fun _ => True) (fun _ => []) := by
  intro w hE hH
  refine enter (n := 6) (vs := [.int .i64 x]) (St w [] []) Try.func54 rfl rfl rfl (St.init hH) ?_
  refine c_seq ?_
  refine c_region _ rfl ?_
  refine l_q rfl (q_assign rfl rfl) rfl rfl ?_
  refine l_nil ?_
  refine k_then ?_
  refine c_seq ?_
  refine c_region _ rfl ?_
  refine l_q rfl (q_move rfl rfl) rfl rfl ?_
  refine l_q rfl (q_move rfl rfl) rfl rfl ?_
  refine l_q rfl (q_neq rfl rfl rfl) rfl rfl ?_
  refine l_q rfl (q_assign rfl rfl) rfl rfl ?_
  refine l_nil ?_
  refine k_then ?_
  refine c_ret ?_
  refine r_one rfl rfl ?_
  exact fun _ h => ⟨(), congrArg (fun z => Ending.returned (Value.bool z)) (by simp), trivial, h⟩
set_option maxRecDepth 100000 in
set_option maxHeartbeats 1000000 in
theorem nan2_spec (x : Int) : Con Try.prog 57 [.int .i64 x] (fun _ => True) [] (fun _ : Unit => .bool false) (fun _ => True) (fun _ => []) := by
  intro w hE hH
  refine enter (n := 6) (vs := [.int .i64 x]) (St w [] []) Try.func57 rfl rfl rfl (St.init hH) ?_
  refine c_seq ?_
  refine c_region _ rfl ?_
  refine l_q rfl (q_assign rfl rfl) rfl rfl ?_
  refine l_nil ?_
  refine k_then ?_
  refine c_seq ?_
  refine c_region _ rfl ?_
  refine l_q rfl (q_move rfl rfl) rfl rfl ?_
  refine l_q rfl (q_move rfl rfl) rfl rfl ?_
  refine l_q rfl (q_neq rfl rfl rfl) rfl rfl ?_
  refine l_q rfl (q_assign rfl rfl) rfl rfl ?_
  refine l_nil ?_
  refine k_then ?_
  refine c_ret ?_
  refine r_one rfl rfl ?_
  exact fun _ h => ⟨(), congrArg (fun z => Ending.returned (Value.bool z)) (by simp), trivial, h⟩
set_option maxRecDepth 100000 in
set_option maxHeartbeats 1000000 in
theorem less_spec (x y : Int) : Con Try.prog 53 [.int .i64 x, .int .i64 y] (fun _ => True) [] (fun _ : Unit => .bool (decide (x < y))) (fun _ => True) (fun _ => []) := by
  intro w hE hH
  refine enter (n := 17) (vs := [.int .i64 x, .int .i64 y]) (St w [] []) Try.func53 rfl rfl rfl (St.init hH) ?_
  refine c_seq ?_
  refine c_region _ rfl ?_
  refine l_q rfl (q_assign rfl rfl) rfl rfl ?_
  refine l_nil ?_
  refine k_then ?_
  refine c_seq ?_
  refine c_region _ rfl ?_
  refine l_q rfl (q_move rfl rfl) rfl rfl ?_
  refine l_e rfl ?_
  refine e_call_00 (nan2_spec x) rfl rfl rfl Try.call57 rfl (fun _ _ => trivial) ?_
  intro _ _
  refine l_q rfl (q_move rfl rfl) rfl rfl ?_
  refine l_not rfl rfl rfl ?_
  refine l_not rfl rfl rfl ?_
  refine l_not rfl rfl rfl ?_
  refine l_q rfl (q_pick_f rfl rfl rfl) rfl rfl ?_
  refine l_q rfl (q_move rfl rfl) rfl rfl ?_
  refine l_q rfl (q_move rfl rfl) rfl rfl ?_
  refine l_q rfl (q_move rfl rfl) rfl rfl ?_
  refine l_q rfl (q_lss rfl rfl rfl) rfl rfl ?_
  refine l_q rfl (q_pick_f rfl rfl rfl) rfl rfl ?_
  refine l_q rfl (q_assign rfl rfl) rfl rfl ?_
  refine l_nil ?_
  refine k_then ?_
  refine c_ret ?_
  refine r_one rfl rfl ?_
  exact fun _ h => ⟨(), rfl, trivial, h⟩
set_option maxRecDepth 100000 in
set_option maxHeartbeats 1000000 in
theorem index_spec {va : Value} (l : List Int) (x : Int) (hn : l.length ≤ 65536) : Con Try.prog 34 [va, .int .i64 x] (fun w => RdV w va (encI .i64) l) [] (fun z : Int => .int .i64 z) (fun z => At l x z) (fun _ => []) := by
  intro w hl hH
  refine enter (n := 19) (vs := [va, .int .i64 x]) (St w [] []) Try.func34 rfl rfl rfl (St.init hH) ?_
  refine c_seq ?_
  refine c_region _ rfl ?_
  refine l_q rfl (q_assign rfl rfl) rfl rfl ?_
  refine l_nil ?_
  refine k_then ?_
  refine c_seq ?_
  refine c_seq ?_
  refine c_region _ rfl ?_
  refine l_q rfl (q_move rfl rfl) rfl rfl ?_
  refine l_q rfl (q_lenV rfl Try.underlying27 rfl (fun _ h => hl.keep h (by simp [dom]))) rfl rfl ?_
  refine l_q rfl (q_move rfl rfl) rfl rfl ?_
  refine l_nil ?_
  refine k_then ?_
  refine c_block ?_
  refine c_loop1 (fun (k : Nat) => [(0, va), (1, .int .i64 x), (7, .int .i64 (l.length : Int)), (8, .int .i64 (k : Int))]) (fun (k : Nat) => St w [] []) (fun (k : Nat) => k ≤ l.length ∧ x ∉ l.take k) (fun (k : Nat) => l.length - k) (0) ⟨Nat.zero_le _, by simp⟩ (Sub.cons rfl (Sub.cons rfl (Sub.cons rfl (Sub.cons rfl (Sub.nil))))) (fun _ h => h) ?_
  intro k hp
  refine c_seq ?_
  obtain ⟨hk, hx⟩ := hp
  refine c_region _ rfl ?_
  refine l_q rfl (q_lss rfl rfl rfl) rfl rfl ?_
  refine l_nil ?_
  refine k_then ?_
  refine c_seq ?_
  refine Pre.caseB 9 rfl (fun hlt => ?_) (fun hlt => ?_)
  · simp only [decide_eq_true_eq, decide_eq_false_iff_not, Bool.not_eq_true', Bool.not_eq_false'] at hlt
    obtain ⟨y, hy⟩ : ∃ y, l[k]? = some y := ⟨_, List.getElem?_eq_getElem (by omega)⟩
    refine c_true rfl ?_
    refine c_skip ?_
    refine k_then ?_
    refine c_seq ?_
    refine c_block ?_
    refine c_seq ?_
    refine c_region _ rfl ?_
    refine l_q rfl (q_move rfl rfl) rfl rfl ?_
    refine l_q rfl (q_assign rfl rfl) rfl rfl ?_
    refine l_nil ?_
    refine k_then ?_
    refine c_seq ?_
    refine c_region _ rfl ?_
    refine l_q rfl (q_move rfl rfl) rfl rfl ?_
    refine l_q rfl (q_move rfl rfl) rfl rfl ?_
    refine l_q rfl (q_move rfl rfl) rfl rfl ?_
    refine l_q rfl (q_indexV k rfl Try.underlying27 Try.sizeOf3 rfl (fun _ h => hl.keep h (by simp [dom])) rfl rfl (by omega)) rfl rfl ?_
    refine l_q rfl (q_loadV k 0 rfl Try.isAgg3 rfl rfl (fun _ h => hl.keep h (by simp [dom])) hy rfl) rfl rfl ?_
    refine l_q rfl (q_eql rfl rfl rfl) rfl rfl ?_
    refine l_nil ?_
    refine k_then ?_
    refine Pre.caseB 16 rfl (fun he => ?_) (fun he => ?_)
    · simp only [decide_eq_true_eq, decide_eq_false_iff_not, Bool.not_eq_true', Bool.not_eq_false'] at he
      refine c_true rfl ?_
      refine c_seq ?_
      refine c_region _ rfl ?_
      refine l_q rfl (q_move rfl rfl) rfl rfl ?_
      refine l_q rfl (q_assign rfl rfl) rfl rfl ?_
      refine l_nil ?_
      refine k_then ?_
      refine c_ret ?_
      refine k_block_ret ?_
      refine k_then_ret ?_
      refine k_then_ret ?_
      refine k_block_ret ?_
      refine k_then_ret ?_
      refine r_one rfl rfl ?_
      exact fun _ h => ⟨(k : Int), rfl, .inr ⟨k, rfl, by rw [hy, he]⟩, h⟩
    · simp only [decide_eq_true_eq, decide_eq_false_iff_not, Bool.not_eq_true', Bool.not_eq_false'] at he
      refine c_false rfl ?_
      refine c_skip ?_
      refine k_block ?_
      refine k_then ?_
      refine c_region _ rfl ?_
      refine l_q rfl (q_inc rfl rfl rfl (by omega)) rfl rfl ?_
      refine l_q rfl (q_move rfl rfl) rfl rfl ?_
      refine l_nil ?_
      exact k_round (k + 1) (by omega) ⟨by omega, take_not hx hy he⟩ (Sub.cons rfl (Sub.cons rfl (Sub.cons rfl (Sub.cons rfl (Sub.nil))))) (fun _ h => h)
  · simp only [decide_eq_true_eq, decide_eq_false_iff_not, Bool.not_eq_true', Bool.not_eq_false'] at hlt
    refine c_false rfl ?_
    refine c_exit ?_
    refine k_then_exit ?_
    refine k_then_exit ?_
    refine k_block_exit ?_
    refine k_then ?_
    refine c_seq ?_
    refine c_region _ rfl ?_
    refine l_q rfl (q_assign rfl rfl) rfl rfl ?_
    refine l_nil ?_
    refine k_then ?_
    refine c_ret ?_
    refine r_one rfl rfl ?_
    exact fun _ h => ⟨-1, rfl, .inl ⟨rfl, by rw [List.take_of_length_le (by omega)] at hx; exact hx⟩, h⟩
set_option maxRecDepth 100000 in
set_option maxHeartbeats 1000000 in
theorem contains_spec {va : Value} (l : List Int) (x : Int) (hn : l.length ≤ 65536) : Con Try.prog 48 [va, .int .i64 x] (fun w => RdV w va (encI .i64) l) [] (fun _ : Unit => .bool (decide (x ∈ l))) (fun _ => True) (fun _ => []) := by
  intro w hl hH
  refine enter (n := 9) (vs := [va, .int .i64 x]) (St w [] []) Try.func48 rfl rfl rfl (St.init hH) ?_
  refine c_seq ?_
  refine c_region _ rfl ?_
  refine l_q rfl (q_assign rfl rfl) rfl rfl ?_
  refine l_nil ?_
  refine k_then ?_
  refine c_seq ?_
  refine c_region _ rfl ?_
  refine l_q rfl (q_move rfl rfl) rfl rfl ?_
  refine l_q rfl (q_move rfl rfl) rfl rfl ?_
  refine l_e rfl ?_
  refine e_call_00 (index_spec l x hn) rfl rfl rfl Try.call34 rfl (fun _ h => hl.keep h (by simp)) ?_
  intro z hz
  refine l_q rfl (q_geq rfl rfl rfl) rfl rfl ?_
  refine l_q rfl (q_assign rfl rfl) rfl rfl ?_
  refine l_nil ?_
  refine k_then ?_
  refine c_ret ?_
  refine r_one rfl rfl ?_
  exact fun _ h => ⟨(), congrArg (fun z => Ending.returned (Value.bool z)) hz.iff, trivial, h⟩
set_option maxRecDepth 100000 in
set_option maxHeartbeats 1000000 in
theorem isof_spec (y : Wt) (b : Nat) (t : Int) : Con Try.prog 50 [.agg (encW.f y).toArray, .pointer (some ⟨b, 0, none⟩)] (fun _ => True) [cellsE b 3 [.int .i64 t]] (fun _ : Unit => .bool (decide (y.1 = t))) (fun _ => True) (fun _ => [cellsE b 3 [.int .i64 t]]) := by
  intro w hE hH
  refine enter (n := 8) (vs := [.agg (encW.f y).toArray, .pointer (some ⟨b, 0, none⟩)]) (St w [b] [cellsE b 3 [.int .i64 t]]) Try.func50 rfl rfl rfl (St.init hH) ?_
  refine c_seq ?_
  refine c_region _ rfl ?_
  refine l_e rfl ?_
  refine e_box rfl rfl rfl rfl ?_
  intro b1
  refine l_q rfl (q_assign rfl rfl) rfl rfl ?_
  refine l_nil ?_
  refine k_then ?_
  refine c_seq ?_
  refine c_region _ rfl ?_
  refine l_q rfl (q_fieldAddr rfl Try.underlying41 rfl Try.sizeOf3 rfl rfl) rfl rfl ?_
  refine l_q rfl (q_loadC rfl Try.isAgg3 rfl (fun _ h => h.at 0 rfl) rfl) rfl rfl ?_
  refine l_q rfl (q_loadC rfl Try.isAgg3 rfl (fun _ h => h.at 1 rfl) rfl) rfl rfl ?_
  refine l_q rfl (q_eql rfl rfl rfl) rfl rfl ?_
  refine l_q rfl (q_assign rfl rfl) rfl rfl ?_
  refine l_nil ?_
  refine k_then ?_
  refine c_ret ?_
  refine r_one rfl rfl ?_
  exact fun _ h => ⟨(), rfl, trivial, h.drop⟩
set_option maxRecDepth 100000 in
set_option maxHeartbeats 1000000 in
theorem indexf_spec {va : Value} (l : List Wt) (b : Nat) (hb : blk va ≠ b ∨ l = []) (t : Int) (hn : l.length ≤ 65536) : Con Try.prog 49 [va, .func (.func 50) #[] #[.pointer (some ⟨b, 0, none⟩)]] (fun w => RdV w va encW l) [cellsE b 3 [.int .i64 t]] (fun z : Int => .int .i64 z) (fun z => AtW l t z) (fun _ => [cellsE b 3 [.int .i64 t]]) := by
  intro w hl hH
  refine enter (n := 19) (vs := [va, .func (.func 50) #[] #[.pointer (some ⟨b, 0, none⟩)]]) (St w [b] [cellsE b 3 [.int .i64 t]]) Try.func49 rfl rfl rfl (St.init hH) ?_
  refine c_seq ?_
  refine c_region _ rfl ?_
  refine l_q rfl (q_assign rfl rfl) rfl rfl ?_
  refine l_nil ?_
  refine k_then ?_
  refine c_seq ?_
  refine c_seq ?_
  refine c_region _ rfl ?_
  refine l_q rfl (q_move rfl rfl) rfl rfl ?_
  refine l_q rfl (q_lenV rfl Try.underlying33 rfl (fun _ h => hl.keepE h (by simpa [dom, cellsE] using hb))) rfl rfl ?_
  refine l_q rfl (q_move rfl rfl) rfl rfl ?_
  refine l_nil ?_
  refine k_then ?_
  refine c_block ?_
  refine c_loop1 (fun (k : Nat) => [(0, va), (1, .func (.func 50) #[] #[.pointer (some ⟨b, 0, none⟩)]), (7, .int .i64 (l.length : Int)), (8, .int .i64 (k : Int))]) (fun (k : Nat) => St w [b] [cellsE b 3 [.int .i64 t]]) (fun (k : Nat) => k ≤ l.length ∧ t ∉ (l.take k).map Prod.fst) (fun (k : Nat) => l.length - k) (0) ⟨Nat.zero_le _, by simp⟩ (Sub.cons rfl (Sub.cons rfl (Sub.cons rfl (Sub.cons rfl (Sub.nil))))) (fun _ h => h) ?_
  intro k hp
  refine c_seq ?_
  obtain ⟨hk, hx⟩ := hp
  refine c_region _ rfl ?_
  refine l_q rfl (q_lss rfl rfl rfl) rfl rfl ?_
  refine l_nil ?_
  refine k_then ?_
  refine c_seq ?_
  refine Pre.caseB 9 rfl (fun hlt => ?_) (fun hlt => ?_)
  · simp only [decide_eq_true_eq, decide_eq_false_iff_not, Bool.not_eq_true', Bool.not_eq_false'] at hlt
    obtain ⟨y, hy⟩ : ∃ y, l[k]? = some y := ⟨_, List.getElem?_eq_getElem (by omega)⟩
    refine c_true rfl ?_
    refine c_skip ?_
    refine k_then ?_
    refine c_seq ?_
    refine c_block ?_
    refine c_seq ?_
    refine c_region _ rfl ?_
    refine l_q rfl (q_move rfl rfl) rfl rfl ?_
    refine l_q rfl (q_assign rfl rfl) rfl rfl ?_
    refine l_nil ?_
    refine k_then ?_
    refine c_seq ?_
    refine c_region _ rfl ?_
    refine l_q rfl (q_move rfl rfl) rfl rfl ?_
    refine l_q rfl (q_move rfl rfl) rfl rfl ?_
    refine l_q rfl (q_move rfl rfl) rfl rfl ?_
    refine l_q rfl (q_indexV k rfl Try.underlying33 Try.sizeOf41 rfl (fun _ h => hl.keepE h (by simpa [dom, cellsE] using hb)) rfl rfl (by omega)) rfl rfl ?_
    refine l_q rfl (q_loadVAgg k rfl Try.isAgg41 Try.sizeOf41 rfl rfl (fun _ h => hl.keepE h (by simpa [dom, cellsE] using hb)) hy) rfl rfl ?_
    refine l_e rfl ?_
    refine e_callV (β := Unit) (X' := fun _ => St w _ [cellsE b 3 [.int .i64 t]]) (v := fun _ => .bool (decide (y.1 = t))) (p := fun _ => True) rfl rfl rfl rfl Try.call50 rfl (fun w2 h => Con.frame (F := []) (isof_spec y b t) h trivial) ?_
    intro _ _
    refine l_nil ?_
    refine k_then ?_
    refine Pre.caseB 16 rfl (fun he => ?_) (fun he => ?_)
    · simp only [decide_eq_true_eq, decide_eq_false_iff_not, Bool.not_eq_true', Bool.not_eq_false'] at he
      refine c_true rfl ?_
      refine c_seq ?_
      refine c_region _ rfl ?_
      refine l_q rfl (q_move rfl rfl) rfl rfl ?_
      refine l_q rfl (q_assign rfl rfl) rfl rfl ?_
      refine l_nil ?_
      refine k_then ?_
      refine c_ret ?_
      refine k_block_ret ?_
      refine k_then_ret ?_
      refine k_then_ret ?_
      refine k_block_ret ?_
      refine k_then_ret ?_
      refine r_one rfl rfl ?_
      exact fun _ h => ⟨(k : Int), rfl, .inr ⟨k, y, rfl, hy, he⟩, h⟩
    · simp only [decide_eq_true_eq, decide_eq_false_iff_not, Bool.not_eq_true', Bool.not_eq_false'] at he
      refine c_false rfl ?_
      refine c_skip ?_
      refine k_block ?_
      refine k_then ?_
      refine c_region _ rfl ?_
      refine l_q rfl (q_inc rfl rfl rfl (by omega)) rfl rfl ?_
      refine l_q rfl (q_move rfl rfl) rfl rfl ?_
      refine l_nil ?_
      exact k_round (k + 1) (by omega) ⟨by omega, take_notW hx hy he⟩ (Sub.cons rfl (Sub.cons rfl (Sub.cons rfl (Sub.cons rfl (Sub.nil))))) (fun _ h => h)
  · simp only [decide_eq_true_eq, decide_eq_false_iff_not, Bool.not_eq_true', Bool.not_eq_false'] at hlt
    refine c_false rfl ?_
    refine c_exit ?_
    refine k_then_exit ?_
    refine k_then_exit ?_
    refine k_block_exit ?_
    refine k_then ?_
    refine c_seq ?_
    refine c_region _ rfl ?_
    refine l_q rfl (q_assign rfl rfl) rfl rfl ?_
    refine l_nil ?_
    refine k_then ?_
    refine c_ret ?_
    refine r_one rfl rfl ?_
    exact fun _ h => ⟨-1, rfl, .inl ⟨rfl, by rw [List.take_of_length_le (by omega)] at hx; exact hx⟩, h⟩
theorem gdI {l : List Int} {k : Nat} (h : k < l.length) : l[k]? = some (l.getD k 0) := by simp [List.getD_eq_getElem?_getD, h]
theorem le_mono {l : List Int} (hs : l.Pairwise (· < ·)) {i j : Nat} (hj : j < l.length) (hij : i ≤ j) : l.getD i 0 ≤ l.getD j 0 := by
  rcases Nat.lt_or_ge i j with h | h
  · have := List.pairwise_iff_getElem.1 hs i j (by omega) hj h
    simp only [List.getD_eq_getElem?_getD, List.getElem?_eq_getElem hj, List.getElem?_eq_getElem (show i < l.length by omega), Option.getD_some]
    omega
  · rw [show i = j by omega]; exact Int.le_refl _
set_option maxRecDepth 100000 in
set_option maxHeartbeats 1000000 in
theorem bsearch_spec {va : Value} (l : List Int) (x : Int) (hs : l.Pairwise (· < ·)) (hn : l.length ≤ 65536) : Con Try.prog 51 [va, .int .i64 x] (fun w => RdV w va (encI .i64) l) [] (fun z : Nat × Bool => .tuple #[.int .i64 (z.1 : Int), .bool z.2]) (fun z => z.1 ≤ l.length ∧ (∀ k, k < z.1 → l.getD k 0 < x) ∧ ∀ h : z.1 < l.length, x ≤ l.getD z.1 0) (fun _ => []) := by
  intro w hl hH
  refine enter (n := 54) (vs := [va, .int .i64 x]) (St w [] []) Try.func51 rfl rfl rfl (St.init hH) ?_
  refine c_seq ?_
  refine c_region _ rfl ?_
  refine l_q rfl (q_assign rfl rfl) rfl rfl ?_
  refine l_q rfl (q_assign rfl rfl) rfl rfl ?_
  refine l_nil ?_
  refine k_then ?_
  refine c_seq ?_
  refine c_region _ rfl ?_
  refine l_q rfl (q_move rfl rfl) rfl rfl ?_
  refine l_q rfl (q_lenV rfl Try.underlying27 rfl (fun _ h => hl.keep h (by simp [dom]))) rfl rfl ?_
  refine l_q rfl (q_assign rfl rfl) rfl rfl ?_
  refine l_nil ?_
  refine k_then ?_
  refine c_seq ?_
  refine c_region _ rfl ?_
  refine l_q rfl (q_move rfl rfl) rfl rfl ?_
  refine l_q rfl (q_assign rfl rfl) rfl rfl ?_
  refine l_q rfl (q_assign rfl rfl) rfl rfl ?_
  refine l_nil ?_
  refine k_then ?_
  refine c_seq ?_
  refine c_block ?_
  refine c_loop2 (fun (i : Nat) (j : Nat) => [(0, va), (1, .int .i64 x), (6, .int .i64 (l.length : Int)), (7, .int .i64 (i : Int)), (8, .int .i64 (j : Int))]) (fun (i : Nat) (j : Nat) => St w [] []) (fun (i : Nat) (j : Nat) => i ≤ j ∧ j ≤ l.length ∧ (∀ k, k < i → l.getD k 0 < x) ∧ ∀ k, j ≤ k → k < l.length → x ≤ l.getD k 0) (fun (i : Nat) (j : Nat) => j - i) (0) (l.length) ⟨Nat.zero_le _, Nat.le_refl _, fun k hk => absurd hk (Nat.not_lt_zero _), fun k h1 h2 => by omega⟩ (Sub.cons rfl (Sub.cons rfl (Sub.cons rfl (Sub.cons rfl (Sub.cons rfl (Sub.nil)))))) (fun _ h => h) ?_
  intro i j hp
  refine c_seq ?_
  refine c_seq ?_
  obtain ⟨hij, hj, hlo, hhi⟩ := hp
  refine c_region _ rfl ?_
  refine l_q rfl (q_move rfl rfl) rfl rfl ?_
  refine l_q rfl (q_move rfl rfl) rfl rfl ?_
  refine l_q rfl (q_lss rfl rfl rfl) rfl rfl ?_
  refine l_nil ?_
  refine k_then ?_
  refine Pre.caseB 15 rfl (fun hlt => ?_) (fun hlt => ?_)
  · simp only [decide_eq_true_eq, decide_eq_false_iff_not, Bool.not_eq_true', Bool.not_eq_false'] at hlt
    obtain ⟨hm, hmd⟩ : ∃ hm : Nat, hm = (i + j) / 2 := ⟨_, rfl⟩
    have hf : ((i : Int) + (j : Int)).fdiv 2 = (hm : Int) := by rw [Int.fdiv_eq_ediv_of_nonneg _ (by omega)]; omega
    refine c_true rfl ?_
    refine c_skip ?_
    refine k_then ?_
    refine c_block ?_
    refine c_seq ?_
    refine c_region _ rfl ?_
    refine l_q rfl (q_move rfl rfl) rfl rfl ?_
    refine l_q rfl (q_move rfl rfl) rfl rfl ?_
    refine l_q rfl (q_add64 rfl rfl rfl (by omega)) rfl rfl ?_
    refine l_q rfl (q_conv_in rfl Try.underlying3 Try.underlying70 rfl (wrapu64_in (by omega))) rfl rfl ?_
    refine l_q rfl (q_half hm rfl rfl rfl hf) rfl rfl ?_
    refine l_q rfl (q_conv_in rfl Try.underlying70 Try.underlying3 rfl (by first | rfl | (simp only [IntKind.wrap]; omega) | exact wrap64_in (by omega))) rfl rfl ?_
    refine l_q rfl (q_assign rfl rfl) rfl rfl ?_
    refine l_nil ?_
    refine k_then ?_
    refine c_seq ?_
    refine c_region _ rfl ?_
    refine l_q rfl (q_move rfl rfl) rfl rfl ?_
    refine l_q rfl (q_move rfl rfl) rfl rfl ?_
    refine l_q rfl (q_indexV hm rfl Try.underlying27 Try.sizeOf3 rfl (fun _ h => hl.keep h (by simp [dom])) rfl rfl (by omega)) rfl rfl ?_
    refine l_q rfl (q_loadV hm 0 rfl Try.isAgg3 rfl rfl (fun _ h => hl.keep h (by simp [dom])) (gdI (by omega)) rfl) rfl rfl ?_
    refine l_q rfl (q_move rfl rfl) rfl rfl ?_
    refine l_e rfl ?_
    refine e_call_00 (less_spec (l.getD hm 0) x) rfl rfl rfl Try.call53 rfl (fun _ _ => trivial) ?_
    intro _ _
    refine l_nil ?_
    refine k_then ?_
    refine Pre.caseB 27 rfl (fun hc => ?_) (fun hc => ?_)
    · simp only [decide_eq_true_eq, decide_eq_false_iff_not, Bool.not_eq_true', Bool.not_eq_false'] at hc
      refine c_true rfl ?_
      refine c_region _ rfl ?_
      refine l_q rfl (q_move rfl rfl) rfl rfl ?_
      refine l_q rfl (q_inc rfl rfl rfl (by omega)) rfl rfl ?_
      refine l_q rfl (q_assign rfl rfl) rfl rfl ?_
      refine l_nil ?_
      refine k_block ?_
      exact k_round ((hm + 1, j)) (by dsimp only; omega) ⟨by dsimp only; omega, hj, fun k hk => Int.lt_of_le_of_lt (le_mono hs (by omega) (show k ≤ hm by omega)) hc, hhi⟩ (Sub.cons rfl (Sub.cons rfl (Sub.cons rfl (Sub.cons rfl (Sub.cons rfl (Sub.nil)))))) (fun _ h => h)
    · simp only [decide_eq_true_eq, decide_eq_false_iff_not, Bool.not_eq_true', Bool.not_eq_false'] at hc
      refine c_false rfl ?_
      refine c_region _ rfl ?_
      refine l_q rfl (q_move rfl rfl) rfl rfl ?_
      refine l_q rfl (q_assign rfl rfl) rfl rfl ?_
      refine l_nil ?_
      refine k_block ?_
      exact k_round ((i, hm)) (by dsimp only; omega) ⟨by dsimp only; omega, by dsimp only; omega, hlo, fun k h1 h2 => Int.le_trans (Int.not_lt.1 hc) (le_mono hs h2 h1)⟩ (Sub.cons rfl (Sub.cons rfl (Sub.cons rfl (Sub.cons rfl (Sub.cons rfl (Sub.nil)))))) (fun _ h => h)
  · simp only [decide_eq_true_eq, decide_eq_false_iff_not, Bool.not_eq_true', Bool.not_eq_false'] at hlt
    have hie : i = j := by omega
    subst hie
    refine c_false rfl ?_
    refine c_exit ?_
    refine k_then_exit ?_
    refine k_then_exit ?_
    refine k_block_exit ?_
    refine k_then ?_
    refine c_seq ?_
    refine c_region _ rfl ?_
    refine l_q rfl (q_move rfl rfl) rfl rfl ?_
    refine l_q rfl (q_move rfl rfl) rfl rfl ?_
    refine l_q rfl (q_move rfl rfl) rfl rfl ?_
    refine l_q rfl (q_lss rfl rfl rfl) rfl rfl ?_
    refine l_q rfl (q_move rfl rfl) rfl rfl ?_
    refine Pre.caseB 35 rfl (fun hil => ?_) (fun hil => ?_)
    · simp only [decide_eq_true_eq, decide_eq_false_iff_not, Bool.not_eq_true', Bool.not_eq_false'] at hil
      refine l_q rfl (q_move rfl rfl) rfl rfl ?_
      refine l_q rfl (q_move rfl rfl) rfl rfl ?_
      refine l_q rfl (q_indexV i rfl Try.underlying27 Try.sizeOf3 rfl (fun _ h => hl.keep h (by simp [dom])) rfl rfl (by omega)) rfl rfl ?_
      refine l_q rfl (q_loadV i 0 rfl Try.isAgg3 rfl rfl (fun _ h => hl.keep h (by simp [dom])) (gdI (by omega)) rfl) rfl rfl ?_
      refine l_q rfl (q_move rfl rfl) rfl rfl ?_
      refine l_q rfl (q_eql rfl rfl rfl) rfl rfl ?_
      refine l_q rfl (q_move rfl rfl) rfl rfl ?_
      refine Pre.caseB 42 rfl (fun heq => ?_) (fun heq => ?_)
      · simp only [decide_eq_true_eq, decide_eq_false_iff_not, Bool.not_eq_true', Bool.not_eq_false'] at heq
        refine l_not rfl rfl rfl ?_
        refine l_not rfl rfl rfl ?_
        refine l_not rfl rfl rfl ?_
        refine l_not rfl rfl rfl ?_
        refine l_not rfl rfl rfl ?_
        refine l_not rfl rfl rfl ?_
        refine l_not rfl rfl rfl ?_
        refine l_not rfl rfl rfl ?_
        refine l_not rfl rfl rfl ?_
        refine l_q rfl (q_pick_t rfl rfl rfl) rfl rfl ?_
        refine l_q rfl (q_pick_t rfl rfl rfl) rfl rfl ?_
        refine l_q rfl (q_assign rfl rfl) rfl rfl ?_
        refine l_q rfl (q_assign rfl rfl) rfl rfl ?_
        refine l_nil ?_
        refine k_then ?_
        refine c_ret ?_
        refine r_many (rs := [.tmp 4, .tmp 5]) rfl rfl ?_
        exact fun _ h => ⟨(i, true), rfl, ⟨hj, hlo, fun hh => hhi i (Nat.le_refl _) hh⟩, h⟩
      · simp only [decide_eq_true_eq, decide_eq_false_iff_not, Bool.not_eq_true', Bool.not_eq_false'] at heq
        refine l_q rfl (q_move rfl rfl) rfl rfl ?_
        refine l_q rfl (q_move rfl rfl) rfl rfl ?_
        refine l_q rfl (q_indexV i rfl Try.underlying27 Try.sizeOf3 rfl (fun _ h => hl.keep h (by simp [dom])) rfl rfl (by omega)) rfl rfl ?_
        refine l_q rfl (q_loadV i 0 rfl Try.isAgg3 rfl rfl (fun _ h => hl.keep h (by simp [dom])) (gdI (by omega)) rfl) rfl rfl ?_
        refine l_e rfl ?_
        refine e_call_00 (nan1_spec _) rfl rfl rfl Try.call54 rfl (fun _ _ => trivial) ?_
        intro _ _
        refine l_q rfl (q_move rfl rfl) rfl rfl ?_
        refine l_not rfl rfl rfl ?_
        refine l_not rfl rfl rfl ?_
        refine l_q rfl (q_pick_f rfl rfl rfl) rfl rfl ?_
        refine l_q rfl (q_pick_f rfl rfl rfl) rfl rfl ?_
        refine l_q rfl (q_pick_t rfl rfl rfl) rfl rfl ?_
        refine l_q rfl (q_assign rfl rfl) rfl rfl ?_
        refine l_q rfl (q_assign rfl rfl) rfl rfl ?_
        refine l_nil ?_
        refine k_then ?_
        refine c_ret ?_
        refine r_many (rs := [.tmp 4, .tmp 5]) rfl rfl ?_
        exact fun _ h => ⟨(i, false), rfl, ⟨hj, hlo, fun hh => hhi i (Nat.le_refl _) hh⟩, h⟩
    · simp only [decide_eq_true_eq, decide_eq_false_iff_not, Bool.not_eq_true', Bool.not_eq_false'] at hil
      refine l_not rfl rfl rfl ?_
      refine l_not rfl rfl rfl ?_
      refine l_not rfl rfl rfl ?_
      refine l_not rfl rfl rfl ?_
      refine l_not rfl rfl rfl ?_
      refine l_not rfl rfl rfl ?_
      refine l_not rfl rfl rfl ?_
      refine l_not rfl rfl rfl ?_
      refine l_not rfl rfl rfl ?_
      refine l_not rfl rfl rfl ?_
      refine l_not rfl rfl rfl ?_
      refine l_not rfl rfl rfl ?_
      refine l_not rfl rfl rfl ?_
      refine l_not rfl rfl rfl ?_
      refine l_not rfl rfl rfl ?_
      refine l_not rfl rfl rfl ?_
      refine l_not rfl rfl rfl ?_
      refine l_q rfl (q_pick_f rfl rfl rfl) rfl rfl ?_
      refine l_q rfl (q_assign rfl rfl) rfl rfl ?_
      refine l_q rfl (q_assign rfl rfl) rfl rfl ?_
      refine l_nil ?_
      refine k_then ?_
      refine c_ret ?_
      refine r_many (rs := [.tmp 4, .tmp 5]) rfl rfl ?_
      exact fun _ h => ⟨(i, false), rfl, ⟨hj, hlo, fun hh => hhi i (Nat.le_refl _) hh⟩, h⟩
end Go.Proofs.Ytlakembncfkimaa
