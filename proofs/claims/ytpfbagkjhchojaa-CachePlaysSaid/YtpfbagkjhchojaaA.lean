/- slices: Index, Contains, IndexFunc, Delete, Clone; rows held against each other; small tests -/
import Derived.Test.YtpfbagkjhchojaaM
set_option linter.unusedVariables false
set_option linter.unusedSimpArgs false
namespace Go.Proofs.Ytpfbagkjhchojaa
open Go.Sep Go.RowKit

section
variable {n : Nat} {L : Env} {X : World → Prop} {o : Oper}
theorem q_neE {u : TypeId} {x y : Operand} (k j : En) (ho : o.op = .binOp .neq 121 x y u) (hx : ev L x = some (.agg k.c.toArray)) (hy : ev L y = some (.agg j.c.toArray)) : QOp Try.prog n L X o (.bool (!decide (k = j))) :=
  q_neAgg (d := 4) (ks := En.ks) _ (by kernel_rfl) (by kernel_rfl) (by decide) (by kernel_rfl) (by kernel_rfl) (by kernel_rfl) ho hx hy (En.kinds k) (En.kinds j) (by rw [En.c_inj, decide_eq_true_eq])
end
theorem rd_nil {α : Type} {w : World} (E : Enc α) : RdV w nil0 E ([] : List α) := ⟨none, 0, rfl, Nat.le_refl _, .inl rfl⟩
theorem rd_nil_of {α : Type} {w : World} {v : Value} {E : Enc α} {l : List α} (h : RdV w v E l) (hv : Sep.vlen v = 0) : l = [] := List.eq_nil_of_length_eq_zero (by rw [← h.vlen]; exact hv)
/-- A slice by its cell. -/
theorem rd_sv {α : Type} {w : World} {v : Value} {E : Enc α} {l : List α} (h : RdV w v E l) : ∃ s : Sv, v = s.v := by
  obtain ⟨a, c, rfl, _⟩ := h; exact ⟨⟨a, l.length, c⟩, rfl⟩
/-- The readings that stand are kept where the row's block is another. -/
theorem RdV.keepE {α : Type} {w0 w : World} {D : List Nat} {H : List Ent} {v : Value} {E : Enc α} {l : List α} (h : RdV w0 v E l) (s : St w0 D H w) (hD : blk v ∉ D ∨ l = []) : RdV w v E l := by
  rcases hD with hD | rfl
  · exact h.keep s hD
  · obtain ⟨a, c, e, hc, _⟩ := h; exact ⟨a, c, e, hc, .inl rfl⟩
set_option maxRecDepth 100000 in
set_option maxHeartbeats 1000000 in
theorem index_spec {va : Value} (l : List Int) (x : Int) (hn : l.length ≤ 65536) : Con Try.prog 91 [va, .int .i64 x] (fun w => RdV w va (encI .i64) l) [] (fun _ : Unit => .int .i64 (io (fst1 (fun z => decide (z = x)) l))) (fun _ => True) (fun _ => []) := by
  intro w hl hH
  refine enter (n := 19) (vs := [va, .int .i64 x]) (St w [] []) Try.func91 rfl rfl rfl (St.init hH) ?_
  refine c_seq ?_
  refine c_region _ rfl ?_
  refine l_q rfl (q_assign rfl rfl) rfl rfl ?_
  refine l_nil ?_
  refine k_then ?_
  refine c_seq ?_
  refine c_seq ?_
  refine c_region _ rfl ?_
  refine l_q rfl (q_move rfl rfl) rfl rfl ?_
  refine l_q rfl (q_lenV rfl Try.underlying28 rfl (fun _ h => hl.keep h (by simp [dom]))) rfl rfl ?_
  refine l_q rfl (q_move rfl rfl) rfl rfl ?_
  refine l_nil ?_
  refine k_then ?_
  refine c_block ?_
  refine c_loop1 (fun (k : Nat) => [(0, va), (1, .int .i64 x), (7, .int .i64 (l.length : Int)), (8, .int .i64 (k : Int))]) (fun (k : Nat) => St w [] []) (fun (k : Nat) => k ≤ l.length ∧ ∀ z ∈ l.take k, decide (z = x) = false) (fun (k : Nat) => l.length - k) (0) ⟨Nat.zero_le _, by simp⟩ (Sub.cons rfl (Sub.cons rfl (Sub.cons rfl (Sub.cons rfl (Sub.nil))))) (fun _ h => h) ?_
  intro k hp
  refine c_seq ?_
  obtain ⟨hk, hx⟩ := hp
  refine c_region _ rfl ?_
  refine l_q rfl (q_lss rfl rfl rfl) rfl rfl ?_
  refine l_nil ?_
  refine k_then ?_
  refine c_seq ?_
  refine Pre.caseB 9 rfl (fun hlt => ?_) (fun hlt => ?_)
  · simp only [decide_eq_true_eq, decide_eq_false_iff_not, Bool.not_eq_true', Bool.not_eq_false'] at hlt
    obtain ⟨y, hy⟩ : ∃ y, l[k]? = some y := ⟨_, List.getElem?_eq_getElem (by omega)⟩
    refine c_true rfl ?_
    refine c_skip ?_
    refine k_then ?_
    refine c_seq ?_
    refine c_block ?_
    refine c_seq ?_
    refine c_region _ rfl ?_
    refine l_q rfl (q_move rfl rfl) rfl rfl ?_
    refine l_q rfl (q_assign rfl rfl) rfl rfl ?_
    refine l_nil ?_
    refine k_then ?_
    refine c_seq ?_
    refine c_region _ rfl ?_
    refine l_q rfl (q_move rfl rfl) rfl rfl ?_
    refine l_q rfl (q_move rfl rfl) rfl rfl ?_
    refine l_q rfl (q_move rfl rfl) rfl rfl ?_
    refine l_q rfl (q_indexV k rfl Try.underlying28 Try.sizeOf3 rfl (fun _ h => hl.keep h (by simp [dom])) rfl rfl (by omega)) rfl rfl ?_
    refine l_q rfl (q_loadV k 0 rfl Try.isAgg3 rfl rfl (fun _ h => hl.keep h (by simp [dom])) hy rfl) rfl rfl ?_
    refine l_q rfl (q_eql rfl rfl rfl) rfl rfl ?_
    refine l_nil ?_
    refine k_then ?_
    refine Pre.caseB 16 rfl (fun he => ?_) (fun he => ?_)
    · simp only [decide_eq_true_eq, decide_eq_false_iff_not, Bool.not_eq_true', Bool.not_eq_false'] at he
      refine c_true rfl ?_
      refine c_seq ?_
      refine c_region _ rfl ?_
      refine l_q rfl (q_move rfl rfl) rfl rfl ?_
      refine l_q rfl (q_assign rfl rfl) rfl rfl ?_
      refine l_nil ?_
      refine k_then ?_
      refine c_ret ?_
      refine k_block_ret ?_
      refine k_then_ret ?_
      refine k_then_ret ?_
      refine k_block_ret ?_
      refine k_then_ret ?_
      refine r_one rfl rfl ?_
      exact fun _ h => ⟨(), congrArg (fun z => Ending.returned (Value.int .i64 z)) (by rw [fst1_some hy (decide_eq_true he.symm) hx]; rfl), trivial, h⟩
    · simp only [decide_eq_true_eq, decide_eq_false_iff_not, Bool.not_eq_true', Bool.not_eq_false'] at he
      refine c_false rfl ?_
      refine c_skip ?_
      refine k_block ?_
      refine k_then ?_
      refine c_region _ rfl ?_
      refine l_q rfl (q_inc rfl rfl rfl (by omega)) rfl rfl ?_
      refine l_q rfl (q_move rfl rfl) rfl rfl ?_
      refine l_nil ?_
      exact k_round (k + 1) (by omega) ⟨by omega, take_none hx hy (decide_eq_false (fun e => he e.symm))⟩ (Sub.cons rfl (Sub.cons rfl (Sub.cons rfl (Sub.cons rfl (Sub.nil))))) (fun _ h => h)
  · simp only [decide_eq_true_eq, decide_eq_false_iff_not, Bool.not_eq_true', Bool.not_eq_false'] at hlt
    refine c_false rfl ?_
    refine c_exit ?_
    refine k_then_exit ?_
    refine k_then_exit ?_
    refine k_block_exit ?_
    refine k_then ?_
    refine c_seq ?_
    refine c_region _ rfl ?_
    refine l_q rfl (q_assign rfl rfl) rfl rfl ?_
    refine l_nil ?_
    refine k_then ?_
    refine c_ret ?_
    refine r_one rfl rfl ?_
    exact fun _ h => ⟨(), congrArg (fun z => Ending.returned (Value.int .i64 z)) (by rw [List.take_of_length_le (by omega)] at hx; rw [fst1_none hx]; rfl), trivial, h⟩
set_option maxRecDepth 100000 in
set_option maxHeartbeats 1000000 in
theorem contains_spec {va : Value} (l : List Int) (x : Int) (hn : l.length ≤ 65536) : Con Try.prog 70 [va, .int .i64 x] (fun w => RdV w va (encI .i64) l) [] (fun _ : Unit => .bool (fst1 (fun z => decide (z = x)) l).isSome) (fun _ => True) (fun _ => []) := by
  intro w hl hH
  refine enter (n := 9) (vs := [va, .int .i64 x]) (St w [] []) Try.func70 rfl rfl rfl (St.init hH) ?_
  refine c_seq ?_
  refine c_region _ rfl ?_
  refine l_q rfl (q_assign rfl rfl) rfl rfl ?_
  refine l_nil ?_
  refine k_then ?_
  refine c_seq ?_
  refine c_region _ rfl ?_
  refine l_q rfl (q_move rfl rfl) rfl rfl ?_
  refine l_q rfl (q_move rfl rfl) rfl rfl ?_
  refine l_e rfl ?_
  refine e_call_00 (index_spec l x hn) rfl rfl rfl Try.call91 rfl (fun _ h => hl.keep h (by simp)) ?_
  intro _ _
  refine l_q rfl (q_geq rfl rfl rfl) rfl rfl ?_
  refine l_q rfl (q_assign rfl rfl) rfl rfl ?_
  refine l_nil ?_
  refine k_then ?_
  refine c_ret ?_
  refine r_one rfl rfl ?_
  exact fun _ h => ⟨(), congrArg (fun z => Ending.returned (Value.bool z)) io_ge, trivial, h⟩
set_option maxRecDepth 100000 in
set_option maxHeartbeats 1000000 in
theorem isof_spec (y : Wn) (b : Nat) (t : Int) : Con Try.prog 72 [.agg y.c.toArray, .pointer (some ⟨b, 0, none⟩)] (fun _ => True) [cellsE b 3 [.int .i64 t]] (fun _ : Unit => .bool (decide (y.t = t))) (fun _ => True) (fun _ => [cellsE b 3 [.int .i64 t]]) := by
  intro w hE hH
  refine enter (n := 8) (vs := [.agg y.c.toArray, .pointer (some ⟨b, 0, none⟩)]) (St w [b] [cellsE b 3 [.int .i64 t]]) Try.func72 rfl rfl rfl (St.init hH) ?_
  refine c_seq ?_
  refine c_region _ rfl ?_
  refine l_e rfl ?_
  refine e_box rfl rfl rfl rfl ?_
  intro b1
  refine l_q rfl (q_assign rfl rfl) rfl rfl ?_
  refine l_nil ?_
  refine k_then ?_
  refine c_seq ?_
  refine c_region _ rfl ?_
  refine l_q rfl (q_fieldAddr rfl Try.underlying83 rfl Try.sizeOf3 rfl rfl) rfl rfl ?_
  refine l_q rfl (q_loadC rfl Try.isAgg3 rfl (fun _ h => h.at 0 rfl) rfl) rfl rfl ?_
  refine l_q rfl (q_loadC rfl Try.isAgg3 rfl (fun _ h => h.at 1 rfl) rfl) rfl rfl ?_
  refine l_q rfl (q_eql rfl rfl rfl) rfl rfl ?_
  refine l_q rfl (q_assign rfl rfl) rfl rfl ?_
  refine l_nil ?_
  refine k_then ?_
  refine c_ret ?_
  refine r_one rfl rfl ?_
  exact fun _ h => ⟨(), rfl, trivial, h.drop⟩
set_option maxRecDepth 100000 in
set_option maxHeartbeats 1000000 in
theorem indexf_spec {va : Value} (l : List Wn) (b : Nat) (hb : blk va ≠ b ∨ l = []) (t : Int) (hn : l.length ≤ 65536) : Con Try.prog 71 [va, .func (.func 72) #[] #[.pointer (some ⟨b, 0, none⟩)]] (fun w => RdV w va Wn.enc l) [cellsE b 3 [.int .i64 t]] (fun _ : Unit => .int .i64 (io (fst1 (fun z => decide (z.t = t)) l))) (fun _ => True) (fun _ => [cellsE b 3 [.int .i64 t]]) := by
  intro w hl hH
  refine enter (n := 19) (vs := [va, .func (.func 72) #[] #[.pointer (some ⟨b, 0, none⟩)]]) (St w [b] [cellsE b 3 [.int .i64 t]]) Try.func71 rfl rfl rfl (St.init hH) ?_
  refine c_seq ?_
  refine c_region _ rfl ?_
  refine l_q rfl (q_assign rfl rfl) rfl rfl ?_
  refine l_nil ?_
  refine k_then ?_
  refine c_seq ?_
  refine c_seq ?_
  refine c_region _ rfl ?_
  refine l_q rfl (q_move rfl rfl) rfl rfl ?_
  refine l_q rfl (q_lenV rfl Try.underlying76 rfl (fun _ h => RdV.keepE hl h (by simpa [dom, cellsE] using hb))) rfl rfl ?_
  refine l_q rfl (q_move rfl rfl) rfl rfl ?_
  refine l_nil ?_
  refine k_then ?_
  refine c_block ?_
  refine c_loop1 (fun (k : Nat) => [(0, va), (1, .func (.func 72) #[] #[.pointer (some ⟨b, 0, none⟩)]), (7, .int .i64 (l.length : Int)), (8, .int .i64 (k : Int))]) (fun (k : Nat) => St w [b] [cellsE b 3 [.int .i64 t]]) (fun (k : Nat) => k ≤ l.length ∧ ∀ z ∈ l.take k, decide (z.t = t) = false) (fun (k : Nat) => l.length - k) (0) ⟨Nat.zero_le _, by simp⟩ (Sub.cons rfl (Sub.cons rfl (Sub.cons rfl (Sub.cons rfl (Sub.nil))))) (fun _ h => h) ?_
  intro k hp
  refine c_seq ?_
  obtain ⟨hk, hx⟩ := hp
  refine c_region _ rfl ?_
  refine l_q rfl (q_lss rfl rfl rfl) rfl rfl ?_
  refine l_nil ?_
  refine k_then ?_
  refine c_seq ?_
  refine Pre.caseB 9 rfl (fun hlt => ?_) (fun hlt => ?_)
  · simp only [decide_eq_true_eq, decide_eq_false_iff_not, Bool.not_eq_true', Bool.not_eq_false'] at hlt
    obtain ⟨y, hy⟩ : ∃ y, l[k]? = some y := ⟨_, List.getElem?_eq_getElem (by omega)⟩
    refine c_true rfl ?_
    refine c_skip ?_
    refine k_then ?_
    refine c_seq ?_
    refine c_block ?_
    refine c_seq ?_
    refine c_region _ rfl ?_
    refine l_q rfl (q_move rfl rfl) rfl rfl ?_
    refine l_q rfl (q_assign rfl rfl) rfl rfl ?_
    refine l_nil ?_
    refine k_then ?_
    refine c_seq ?_
    refine c_region _ rfl ?_
    refine l_q rfl (q_move rfl rfl) rfl rfl ?_
    refine l_q rfl (q_move rfl rfl) rfl rfl ?_
    refine l_q rfl (q_move rfl rfl) rfl rfl ?_
    refine l_q rfl (q_indexV k rfl Try.underlying76 Try.sizeOf83 rfl (fun _ h => RdV.keepE hl h (by simpa [dom, cellsE] using hb)) rfl rfl (by omega)) rfl rfl ?_
    refine l_q rfl (q_loadVAgg k rfl Try.isAgg83 Try.sizeOf83 rfl rfl (fun _ h => RdV.keepE hl h (by simpa [dom, cellsE] using hb)) hy) rfl rfl ?_
    refine l_e rfl ?_
    refine e_callV (β := Unit) (X' := fun _ => St w _ [cellsE b 3 [.int .i64 t]]) (v := fun _ => .bool (decide (y.t = t))) (p := fun _ => True) rfl rfl rfl rfl Try.call72 rfl (fun w2 h => Con.frame (F := []) (isof_spec y b t) h trivial) ?_
    intro _ _
    refine l_nil ?_
    refine k_then ?_
    refine Pre.caseB 16 rfl (fun he => ?_) (fun he => ?_)
    · simp only [decide_eq_true_eq, decide_eq_false_iff_not, Bool.not_eq_true', Bool.not_eq_false'] at he
      refine c_true rfl ?_
      refine c_seq ?_
      refine c_region _ rfl ?_
      refine l_q rfl (q_move rfl rfl) rfl rfl ?_
      refine l_q rfl (q_assign rfl rfl) rfl rfl ?_
      refine l_nil ?_
      refine k_then ?_
      refine c_ret ?_
      refine k_block_ret ?_
      refine k_then_ret ?_
      refine k_then_ret ?_
      refine k_block_ret ?_
      refine k_then_ret ?_
      refine r_one rfl rfl ?_
      exact fun _ h => ⟨(), congrArg (fun z => Ending.returned (Value.int .i64 z)) (by rw [fst1_some hy (decide_eq_true he) hx]; rfl), trivial, h⟩
    · simp only [decide_eq_true_eq, decide_eq_false_iff_not, Bool.not_eq_true', Bool.not_eq_false'] at he
      refine c_false rfl ?_
      refine c_skip ?_
      refine k_block ?_
      refine k_then ?_
      refine c_region _ rfl ?_
      refine l_q rfl (q_inc rfl rfl rfl (by omega)) rfl rfl ?_
      refine l_q rfl (q_move rfl rfl) rfl rfl ?_
      refine l_nil ?_
      exact k_round (k + 1) (by omega) ⟨by omega, take_none hx hy (decide_eq_false he)⟩ (Sub.cons rfl (Sub.cons rfl (Sub.cons rfl (Sub.cons rfl (Sub.nil))))) (fun _ h => h)
  · simp only [decide_eq_true_eq, decide_eq_false_iff_not, Bool.not_eq_true', Bool.not_eq_false'] at hlt
    refine c_false rfl ?_
    refine c_exit ?_
    refine k_then_exit ?_
    refine k_then_exit ?_
    refine k_block_exit ?_
    refine k_then ?_
    refine c_seq ?_
    refine c_region _ rfl ?_
    refine l_q rfl (q_assign rfl rfl) rfl rfl ?_
    refine l_nil ?_
    refine k_then ?_
    refine c_ret ?_
    refine r_one rfl rfl ?_
    exact fun _ h => ⟨(), congrArg (fun z => Ending.returned (Value.int .i64 z)) (by rw [List.take_of_length_le (by omega)] at hx; rw [fst1_none hx]; rfl), trivial, h⟩
set_option maxRecDepth 100000 in
set_option maxHeartbeats 1000000 in
theorem deletew_spec {v : Value} (l : List Wn) (i : Nat) (hi : i < l.length) (hn : l.length ≤ 65536) : Con Try.prog 69 [v, .int .i64 (i : Int), .int .i64 ((i : Int) + 1)] (fun _ => True) [rowE v 83 Wn.enc l] (fun v : Value => v) (fun _ => True) (fun v => [rowE v 83 Wn.enc (l.eraseIdx i)]) := by
  intro w hE hH
  obtain ⟨bb, oo, cc, rfl⟩ := rd_open (rowE_rd (hH.holds _ (List.mem_cons_self ..))) (show 0 < l.length by omega)
  refine enter (n := 33) (vs := [(.slice (some ⟨bb, oo, none⟩) l.length cc), .int .i64 (i : Int), .int .i64 ((i : Int) + 1)]) (St w (dom [rowE (.slice (some ⟨bb, oo, none⟩) l.length cc) 83 Wn.enc l]) [rowE (.slice (some ⟨bb, oo, none⟩) l.length cc) 83 Wn.enc l]) Try.func69 rfl rfl rfl (St.init hH) ?_
  refine c_seq ?_
  refine Pre.fact (fun _ h => (h.rd 0 rfl).cap) ?_
  intro hcap
  refine c_region _ rfl ?_
  refine l_q rfl (q_assign rfl rfl) rfl rfl ?_
  refine l_nil ?_
  refine k_then ?_
  refine c_seq ?_
  refine c_region _ rfl ?_
  refine l_q rfl (q_move rfl rfl) rfl rfl ?_
  refine l_q rfl (q_move rfl rfl) rfl rfl ?_
  refine l_q rfl (q_move rfl rfl) rfl rfl ?_
  refine l_q rfl (q_move rfl rfl) rfl rfl ?_
  refine l_q rfl (q_lenV rfl Try.underlying76 rfl (fun _ h => h.rd 0 rfl)) rfl rfl ?_
  refine l_q rfl (q_slice3 i (i + 1) l.length rfl Try.underlying76 Try.sizeOf83 rfl (fun _ h => h.rd 0 rfl) rfl rfl rfl rfl rfl rfl (by omega) (by omega) (by omega)) rfl rfl ?_
  refine l_nil ?_
  refine k_then ?_
  refine c_seq ?_
  refine c_seq ?_
  refine c_region _ rfl ?_
  refine l_q rfl (q_move rfl rfl) rfl rfl ?_
  refine l_q rfl (q_move rfl rfl) rfl rfl ?_
  refine l_q rfl (q_eql rfl rfl rfl) rfl rfl ?_
  refine l_nil ?_
  refine k_then ?_
  refine Pre.setB (t := 16) (c := false) rfl (decide_eq_false (by omega)) ?_
  refine c_false rfl ?_
  refine c_skip ?_
  refine k_then ?_
  refine c_seq ?_
  refine c_region _ rfl ?_
  refine l_q rfl (q_move rfl rfl) rfl rfl ?_
  refine l_q rfl (q_lenV rfl Try.underlying76 rfl (fun _ h => h.rd 0 rfl)) rfl rfl ?_
  refine l_q rfl (q_assign rfl rfl) rfl rfl ?_
  refine l_nil ?_
  refine k_then ?_
  refine c_seq ?_
  refine c_draw [(0, some true), (1, some true), (2, some true), (3, some true), (4, some true), (5, some true), (6, some false), (7, some true)] [] [(_, some true), (_, some true), (_, some true), (_, some true), (_, some true), (_, some true), (_, some false), (_, some true)] (fun _ => True) (blind_then blind_body) rfl (by kernel_rfl) (by kernel_rfl) rfl rfl rfl (by kernel_rfl) St.drawn (fun _ _ => trivial) ?_
  refine d_q rfl (q_move rfl rfl) rfl rfl ?_
  refine d_q rfl (q_move rfl rfl) rfl rfl ?_
  refine d_q rfl (q_sliceH i rfl Try.underlying76 Try.sizeOf83 rfl rfl rfl (by have : l.length ≤ cc := hcap; omega)) rfl rfl ?_
  refine d_q rfl (q_move rfl rfl) rfl rfl ?_
  refine d_q rfl (q_move rfl rfl) rfl rfl ?_
  refine d_q rfl (q_sliceL (i + 1) rfl Try.underlying76 Try.sizeOf83 rfl rfl rfl (by omega)) rfl rfl ?_
  refine Pre.setV (t := 22) (c := vsl (.slice (some ⟨bb, oo, none⟩) l.length cc) Wn.enc.sz 0 i) rfl (by simp [vsl, add_none]) ?_
  refine Pre.setV (t := 25) (c := vsl (.slice (some ⟨bb, oo, none⟩) l.length cc) Wn.enc.sz (i + 1) l.length) rfl (by by_cases h9 : cc = i + 1 <;> simp [vsl, add_none, h9, encI, Wn.enc]) ?_
  have hcc : l.length ≤ vcap (.slice (some ⟨bb, oo, none⟩) l.length cc) := hcap
  refine d_e rfl ?_
  refine e_appendIn i rfl rfl rfl Try.underlying76 Try.underlying76 Try.sizeOf83 rfl rfl (fun _ h => vsl_rd (h.rd 0 rfl) (lo := i + 1) (hi := l.length) (by omega) (Nat.le_refl _)) (by simp only [List.length_drop, List.length_take]; omega) ?_
  intro v2 hc2
  refine row_eq (l' := l.eraseIdx i) (by rw [List.take_length, List.eraseIdx_eq_take_drop_succ]) ?_
  have hl2 : (l.eraseIdx i).length = l.length - 1 := by rw [List.length_eraseIdx]; simp; omega
  refine d_held (fun _ _ => trivial) ?_
  refine d_q rfl (q_assign rfl rfl) rfl rfl ?_
  refine d_nil ?_
  refine k_then ?_
  refine c_seq ?_
  refine c_region _ rfl ?_
  refine l_q rfl (q_move rfl rfl) rfl rfl ?_
  refine l_q rfl (q_move rfl rfl) rfl rfl ?_
  refine l_q rfl (q_lenV rfl Try.underlying76 rfl (fun _ h => h.rd 0 rfl)) rfl rfl ?_
  refine l_q rfl (q_move rfl rfl) rfl rfl ?_
  refine l_q rfl (q_sliceC (l.eraseIdx i).length l.length rfl Try.underlying76 Try.sizeOf83 rfl (fun _ h => h.rd 0 rfl) rfl rfl rfl rfl (by omega) (by omega)) rfl rfl ?_
  refine l_e rfl ?_
  refine e_clearTail rfl rfl Try.underlying76 info83 rfl rfl (by decide) rfl (by omega) (by omega) ?_
  refine l_nil ?_
  refine k_then ?_
  refine c_seq ?_
  refine c_region _ rfl ?_
  refine l_q rfl (q_move rfl rfl) rfl rfl ?_
  refine l_q rfl (q_assign rfl rfl) rfl rfl ?_
  refine l_nil ?_
  refine k_then ?_
  refine c_ret ?_
  refine r_one rfl rfl ?_
  exact fun _ h => ⟨v2, rfl, trivial, h⟩
set_option maxRecDepth 100000 in
set_option maxHeartbeats 1000000 in
theorem clonee_spec {va : Value} (l : List En) (hn : l.length ≤ 65536) : Con Try.prog 73 [va] (fun w => RdV w va En.enc l) [] (fun v : Value => v) (fun _ => True) (fun v => [rowE v 121 En.enc l]) := by
  intro w hl hH
  obtain ⟨a, c, rfl⟩ := rd_sl hl
  refine enter (n := 8) (vs := [.slice a l.length c]) (St w [] []) Try.func73 rfl rfl rfl (St.init hH) ?_
  refine c_seq ?_
  refine c_region _ rfl ?_
  refine l_q rfl (q_assign rfl rfl) rfl rfl ?_
  refine l_nil ?_
  refine k_then ?_
  refine c_seq ?_
  refine c_seq ?_
  refine c_region _ rfl ?_
  refine l_q rfl (q_move rfl rfl) rfl rfl ?_
  refine l_q rfl (q_eqsl rfl Try.underlying33 rfl rfl) rfl rfl ?_
  refine l_nil ?_
  refine k_then ?_
  refine Pre.caseB 4 rfl (fun hn => ?_) (fun hn => ?_)
  · rw [Option.isNone_iff_eq_none] at hn
    subst hn
    have hl0 := rd_none hl
    subst hl0
    refine c_true rfl ?_
    refine c_seq ?_
    refine c_region _ rfl ?_
    refine l_q rfl (q_assign rfl rfl) rfl rfl ?_
    refine l_nil ?_
    refine k_then ?_
    refine c_ret ?_
    refine k_then_ret ?_
    refine row0 121 En.enc none ?_
    refine r_one rfl rfl ?_
    exact fun _ h => ⟨_, rfl, trivial, h⟩
  · refine c_false rfl ?_
    refine c_skip ?_
    refine k_then ?_
    refine c_seq ?_
    refine c_region _ rfl ?_
    refine l_e rfl ?_
    refine e_buildSliceV (sz := 26) [] rfl rfl rfl rfl rfl Try.underlying33 Try.sizeOf121 rfl Try.zeroValue121 rfl ?_
    intro b
    refine rowLit En.enc [] rfl rfl ?_
    refine l_q rfl (q_move rfl rfl) rfl rfl ?_
    refine l_e rfl ?_
    refine e_append rfl rfl rfl Try.underlying33 Try.underlying33 info121 rfl rfl rfl rfl rfl (fun _ h => hl.keep h (by simp)) (by simp only [byt121, List.length_append, List.length_cons, List.length_nil]; omega) (by simp only [List.length_append, List.length_cons, List.length_nil]; omega) ?_
    intro v
    refine l_q rfl (q_assign rfl rfl) rfl rfl ?_
    refine l_nil ?_
    refine k_then ?_
    refine c_ret ?_
    rw [List.nil_append]
    refine r_one rfl rfl ?_
    exact fun _ h => ⟨v, rfl, trivial, h⟩
set_option maxRecDepth 100000 in
set_option maxHeartbeats 1000000 in
theorem clonei_nil  : Con Try.prog 74 [nil0] (fun _ => True) [] (fun _ : Unit => nil0) (fun _ => True) (fun _ => []) := by
  intro w hE hH
  refine enter (n := 8) (vs := [nil0]) (St w [] []) Try.func74 rfl rfl rfl (St.init hH) ?_
  refine c_seq ?_
  refine c_region _ rfl ?_
  refine l_q rfl (q_assign rfl rfl) rfl rfl ?_
  refine l_nil ?_
  refine k_then ?_
  refine c_seq ?_
  refine c_seq ?_
  refine c_region _ rfl ?_
  refine l_q rfl (q_move rfl rfl) rfl rfl ?_
  refine l_q rfl (q_eqsl rfl Try.underlying28 rfl rfl) rfl rfl ?_
  refine l_nil ?_
  refine k_then ?_
  refine Pre.setB (t := 4) (c := true) rfl (rfl) ?_
  refine c_true rfl ?_
  refine c_seq ?_
  refine c_region _ rfl ?_
  refine l_q rfl (q_assign rfl rfl) rfl rfl ?_
  refine l_nil ?_
  refine k_then ?_
  refine c_ret ?_
  refine k_then_ret ?_
  refine r_one rfl rfl ?_
  exact fun _ h => ⟨(), rfl, trivial, h⟩
set_option maxRecDepth 100000 in
set_option maxHeartbeats 1000000 in
theorem clonek_nil  : Con Try.prog 75 [nil0] (fun _ => True) [] (fun _ : Unit => nil0) (fun _ => True) (fun _ => []) := by
  intro w hE hH
  refine enter (n := 8) (vs := [nil0]) (St w [] []) Try.func75 rfl rfl rfl (St.init hH) ?_
  refine c_seq ?_
  refine c_region _ rfl ?_
  refine l_q rfl (q_assign rfl rfl) rfl rfl ?_
  refine l_nil ?_
  refine k_then ?_
  refine c_seq ?_
  refine c_seq ?_
  refine c_region _ rfl ?_
  refine l_q rfl (q_move rfl rfl) rfl rfl ?_
  refine l_q rfl (q_eqsl rfl Try.underlying34 rfl rfl) rfl rfl ?_
  refine l_nil ?_
  refine k_then ?_
  refine Pre.setB (t := 4) (c := true) rfl (rfl) ?_
  refine c_true rfl ?_
  refine c_seq ?_
  refine c_region _ rfl ?_
  refine l_q rfl (q_assign rfl rfl) rfl rfl ?_
  refine l_nil ?_
  refine k_then ?_
  refine c_ret ?_
  refine k_then_ret ?_
  refine r_one rfl rfl ?_
  exact fun _ h => ⟨(), rfl, trivial, h⟩
set_option maxRecDepth 100000 in
set_option maxHeartbeats 1000000 in
theorem clonem_nil  : Con Try.prog 76 [nil0] (fun _ => True) [] (fun _ : Unit => nil0) (fun _ => True) (fun _ => []) := by
  intro w hE hH
  refine enter (n := 8) (vs := [nil0]) (St w [] []) Try.func76 rfl rfl rfl (St.init hH) ?_
  refine c_seq ?_
  refine c_region _ rfl ?_
  refine l_q rfl (q_assign rfl rfl) rfl rfl ?_
  refine l_nil ?_
  refine k_then ?_
  refine c_seq ?_
  refine c_seq ?_
  refine c_region _ rfl ?_
  refine l_q rfl (q_move rfl rfl) rfl rfl ?_
  refine l_q rfl (q_eqsl rfl Try.underlying35 rfl rfl) rfl rfl ?_
  refine l_nil ?_
  refine k_then ?_
  refine Pre.setB (t := 4) (c := true) rfl (rfl) ?_
  refine c_true rfl ?_
  refine c_seq ?_
  refine c_region _ rfl ?_
  refine l_q rfl (q_assign rfl rfl) rfl rfl ?_
  refine l_nil ?_
  refine k_then ?_
  refine c_ret ?_
  refine k_then_ret ?_
  refine r_one rfl rfl ?_
  exact fun _ h => ⟨(), rfl, trivial, h⟩
theorem gd {l : List Int} {k : Nat} (h : k < l.length) : l[k]? = some (l.getD k 0) := by simp [List.getD_eq_getElem?_getD, h]
theorem take_same {α : Type} {a b : List α} {k : Nat} {x y : α} (h : a.take k = b.take k) (hx : a[k]? = some x) (hy : b[k]? = some y) (e : x = y) : a.take (k + 1) = b.take (k + 1) := by
  subst e
  rw [List.take_add_one, List.take_add_one, hx, hy, h]

set_option maxRecDepth 100000 in
set_option maxHeartbeats 1000000 in
theorem sameints_spec {va vb : Value} (la lb : List Int) (hn : la.length ≤ 4611686018427387904) : Con Try.prog 17 [va, vb] (fun w => RdV w va (encI .i64) la ∧ RdV w vb (encI .i64) lb) [] (fun _ : Unit => .bool (decide (la = lb))) (fun _ => True) (fun _ => []) := by
  intro w hE hH
  obtain ⟨ha, hb⟩ := hE
  refine enter (n := 26) (vs := [va, vb]) (St w [] []) Try.func17 rfl rfl rfl (St.init hH) ?_
  refine c_seq ?_
  refine c_region _ rfl ?_
  refine l_q rfl (q_assign rfl rfl) rfl rfl ?_
  refine l_nil ?_
  refine k_then ?_
  refine c_seq ?_
  refine c_seq ?_
  refine c_region _ rfl ?_
  refine l_q rfl (q_move rfl rfl) rfl rfl ?_
  refine l_q rfl (q_lenV rfl Try.underlying28 rfl (fun _ h => ha.keep h (by simp [dom]))) rfl rfl ?_
  refine l_q rfl (q_move rfl rfl) rfl rfl ?_
  refine l_q rfl (q_lenV rfl Try.underlying28 rfl (fun _ h => hb.keep h (by simp [dom]))) rfl rfl ?_
  refine l_q rfl (q_neq rfl rfl rfl) rfl rfl ?_
  refine l_nil ?_
  refine k_then ?_
  refine Pre.caseB 10 rfl (fun hl => ?_) (fun hl => ?_)
  · simp only [decide_eq_true_eq, decide_eq_false_iff_not, Bool.not_eq_true', Bool.not_eq_false'] at hl
    refine c_true rfl ?_
    refine c_seq ?_
    refine c_region _ rfl ?_
    refine l_q rfl (q_assign rfl rfl) rfl rfl ?_
    refine l_nil ?_
    refine k_then ?_
    refine c_ret ?_
    refine k_then_ret ?_
    refine r_one rfl rfl ?_
    exact fun _ h => ⟨(), congrArg (fun z => Ending.returned (Value.bool z)) (decide_eq_false (fun e => hl (by rw [e]))).symm, trivial, h⟩
  · simp only [decide_eq_true_eq, decide_eq_false_iff_not, Bool.not_eq_true', Bool.not_eq_false'] at hl
    refine c_false rfl ?_
    refine c_skip ?_
    refine k_then ?_
    refine c_seq ?_
    refine c_seq ?_
    refine c_region _ rfl ?_
    refine l_q rfl (q_assign rfl rfl) rfl rfl ?_
    refine l_nil ?_
    refine k_then ?_
    refine c_block ?_
    refine c_loop1 (fun (k : Nat) => [(0, va), (1, vb), (5, .int .i64 (k : Int))]) (fun (k : Nat) => St w [] []) (fun (k : Nat) => k ≤ la.length ∧ la.take k = lb.take k) (fun (k : Nat) => la.length - k) (0) ⟨Nat.zero_le _, rfl⟩ (Sub.cons rfl (Sub.cons rfl (Sub.cons rfl (Sub.nil)))) (fun _ h => h) ?_
    intro k hk
    refine c_seq ?_
    refine c_seq ?_
    obtain ⟨hk, ht⟩ := hk
    refine c_region _ rfl ?_
    refine l_q rfl (q_move rfl rfl) rfl rfl ?_
    refine l_q rfl (q_move rfl rfl) rfl rfl ?_
    refine l_q rfl (q_lenV rfl Try.underlying28 rfl (fun _ h => ha.keep h (by simp [dom]))) rfl rfl ?_
    refine l_q rfl (q_lss rfl rfl rfl) rfl rfl ?_
    refine l_nil ?_
    refine k_then ?_
    refine Pre.caseB 14 rfl (fun hlt => ?_) (fun hlt => ?_)
    · simp only [decide_eq_true_eq, decide_eq_false_iff_not, Bool.not_eq_true', Bool.not_eq_false'] at hlt
      obtain ⟨x, hx⟩ : ∃ x, la[k]? = some x := ⟨_, List.getElem?_eq_getElem (by omega)⟩
      obtain ⟨y, hy⟩ : ∃ y, lb[k]? = some y := ⟨_, List.getElem?_eq_getElem (by omega)⟩
      refine c_true rfl ?_
      refine c_skip ?_
      refine k_then ?_
      refine c_seq ?_
      refine c_block ?_
      refine c_seq ?_
      refine c_draw [(0, some true), (1, some true), (2, some true), (3, some true), (4, some true), (5, some true), (6, some true), (7, some true), (8, some true)] [] [(_, some true), (_, some true), (_, some true), (_, some true), (_, some true), (_, some true), (_, some true), (_, some true), (_, some true)] _ (blind_then (blind_block (blind_then (blind_then (blind_block (blind_then blind_body)))))) rfl (by kernel_rfl) (by kernel_rfl) rfl rfl rfl (by kernel_rfl) St.drawn (fun _ h => h) ?_
      refine d_q rfl (q_move rfl rfl) rfl rfl ?_
      refine d_q rfl (q_move rfl rfl) rfl rfl ?_
      refine d_q rfl (q_indexV k rfl Try.underlying28 Try.sizeOf3 rfl (fun _ h => ha.keep h (by simp [dom])) rfl rfl (by omega)) rfl rfl ?_
      refine d_q rfl (q_loadV k 0 rfl Try.isAgg3 rfl rfl (fun _ h => ha.keep h (by simp [dom])) hx rfl) rfl rfl ?_
      refine d_q rfl (q_move rfl rfl) rfl rfl ?_
      refine d_q rfl (q_move rfl rfl) rfl rfl ?_
      refine d_q rfl (q_indexV k rfl Try.underlying28 Try.sizeOf3 rfl (fun _ h => hb.keep h (by simp [dom])) rfl rfl (by omega)) rfl rfl ?_
      refine d_q rfl (q_loadV k 0 rfl Try.isAgg3 rfl rfl (fun _ h => hb.keep h (by simp [dom])) hy rfl) rfl rfl ?_
      refine d_q rfl (q_neq rfl rfl rfl) rfl rfl ?_
      refine d_nil ?_
      refine k_then ?_
      refine Pre.caseB 25 rfl (fun hne => ?_) (fun hne => ?_)
      · simp only [decide_eq_true_eq, decide_eq_false_iff_not, Bool.not_eq_true', Bool.not_eq_false'] at hne
        refine c_true rfl ?_
        refine c_seq ?_
        refine c_region _ rfl ?_
        refine l_q rfl (q_assign rfl rfl) rfl rfl ?_
        refine l_nil ?_
        refine k_then ?_
        refine c_ret ?_
        refine k_block_ret ?_
        refine k_then_ret ?_
        refine k_then_ret ?_
        refine k_block_ret ?_
        refine k_then_ret ?_
        refine r_one rfl rfl ?_
        exact fun _ h => ⟨(), congrArg (fun z => Ending.returned (Value.bool z)) (decide_eq_false (fun e => hne (by rw [e, hy] at hx; exact (Option.some.inj hx).symm))).symm, trivial, h⟩
      · simp only [decide_eq_true_eq, decide_eq_false_iff_not, Bool.not_eq_true', Bool.not_eq_false'] at hne
        refine c_false rfl ?_
        refine c_skip ?_
        refine k_block ?_
        refine k_then ?_
        refine c_region _ rfl ?_
        refine l_q rfl (q_move rfl rfl) rfl rfl ?_
        refine l_q rfl (q_inc rfl rfl rfl (by omega)) rfl rfl ?_
        refine l_q rfl (q_assign rfl rfl) rfl rfl ?_
        refine l_nil ?_
        exact k_round (k + 1) (by omega) ⟨by omega, take_same ht hx hy hne⟩ (Sub.cons rfl (Sub.cons rfl (Sub.cons rfl (Sub.nil)))) (fun _ h => h)
    · simp only [decide_eq_true_eq, decide_eq_false_iff_not, Bool.not_eq_true', Bool.not_eq_false'] at hlt
      refine c_false rfl ?_
      refine c_exit ?_
      refine k_then_exit ?_
      refine k_then_exit ?_
      refine k_block_exit ?_
      refine k_then ?_
      refine c_seq ?_
      refine c_region _ rfl ?_
      refine l_q rfl (q_assign rfl rfl) rfl rfl ?_
      refine l_nil ?_
      refine k_then ?_
      refine c_ret ?_
      refine r_one rfl rfl ?_
      exact fun _ h => ⟨(), congrArg (fun z => Ending.returned (Value.bool z)) (decide_eq_true (by rw [List.take_of_length_le (by omega), List.take_of_length_le (by omega)] at ht; exact ht)).symm, trivial, h⟩
set_option maxRecDepth 100000 in
set_option maxHeartbeats 1000000 in
theorem sameen_spec {va vb : Value} (la lb : List En) (hn : la.length ≤ 4611686018427387904) : Con Try.prog 66 [va, vb] (fun w => RdV w va En.enc la ∧ RdV w vb En.enc lb) [] (fun _ : Unit => .bool (decide (la = lb))) (fun _ => True) (fun _ => []) := by
  intro w hE hH
  obtain ⟨ha, hb⟩ := hE
  refine enter (n := 26) (vs := [va, vb]) (St w [] []) Try.func66 rfl rfl rfl (St.init hH) ?_
  refine c_seq ?_
  refine c_region _ rfl ?_
  refine l_q rfl (q_assign rfl rfl) rfl rfl ?_
  refine l_nil ?_
  refine k_then ?_
  refine c_seq ?_
  refine c_seq ?_
  refine c_region _ rfl ?_
  refine l_q rfl (q_move rfl rfl) rfl rfl ?_
  refine l_q rfl (q_lenV rfl Try.underlying33 rfl (fun _ h => ha.keep h (by simp [dom]))) rfl rfl ?_
  refine l_q rfl (q_move rfl rfl) rfl rfl ?_
  refine l_q rfl (q_lenV rfl Try.underlying33 rfl (fun _ h => hb.keep h (by simp [dom]))) rfl rfl ?_
  refine l_q rfl (q_neq rfl rfl rfl) rfl rfl ?_
  refine l_nil ?_
  refine k_then ?_
  refine Pre.caseB 10 rfl (fun hl => ?_) (fun hl => ?_)
  · simp only [decide_eq_true_eq, decide_eq_false_iff_not, Bool.not_eq_true', Bool.not_eq_false'] at hl
    refine c_true rfl ?_
    refine c_seq ?_
    refine c_region _ rfl ?_
    refine l_q rfl (q_assign rfl rfl) rfl rfl ?_
    refine l_nil ?_
    refine k_then ?_
    refine c_ret ?_
    refine k_then_ret ?_
    refine r_one rfl rfl ?_
    exact fun _ h => ⟨(), congrArg (fun z => Ending.returned (Value.bool z)) (decide_eq_false (fun e => hl (by rw [e]))).symm, trivial, h⟩
  · simp only [decide_eq_true_eq, decide_eq_false_iff_not, Bool.not_eq_true', Bool.not_eq_false'] at hl
    refine c_false rfl ?_
    refine c_skip ?_
    refine k_then ?_
    refine c_seq ?_
    refine c_seq ?_
    refine c_region _ rfl ?_
    refine l_q rfl (q_assign rfl rfl) rfl rfl ?_
    refine l_nil ?_
    refine k_then ?_
    refine c_block ?_
    refine c_loop1 (fun (k : Nat) => [(0, va), (1, vb), (5, .int .i64 (k : Int))]) (fun (k : Nat) => St w [] []) (fun (k : Nat) => k ≤ la.length ∧ la.take k = lb.take k) (fun (k : Nat) => la.length - k) (0) ⟨Nat.zero_le _, rfl⟩ (Sub.cons rfl (Sub.cons rfl (Sub.cons rfl (Sub.nil)))) (fun _ h => h) ?_
    intro k hk
    refine c_seq ?_
    refine c_seq ?_
    obtain ⟨hk, ht⟩ := hk
    refine c_region _ rfl ?_
    refine l_q rfl (q_move rfl rfl) rfl rfl ?_
    refine l_q rfl (q_move rfl rfl) rfl rfl ?_
    refine l_q rfl (q_lenV rfl Try.underlying33 rfl (fun _ h => ha.keep h (by simp [dom]))) rfl rfl ?_
    refine l_q rfl (q_lss rfl rfl rfl) rfl rfl ?_
    refine l_nil ?_
    refine k_then ?_
    refine Pre.caseB 14 rfl (fun hlt => ?_) (fun hlt => ?_)
    · simp only [decide_eq_true_eq, decide_eq_false_iff_not, Bool.not_eq_true', Bool.not_eq_false'] at hlt
      obtain ⟨x, hx⟩ : ∃ x, la[k]? = some x := ⟨_, List.getElem?_eq_getElem (by omega)⟩
      obtain ⟨y, hy⟩ : ∃ y, lb[k]? = some y := ⟨_, List.getElem?_eq_getElem (by omega)⟩
      refine c_true rfl ?_
      refine c_skip ?_
      refine k_then ?_
      refine c_seq ?_
      refine c_block ?_
      refine c_seq ?_
      refine c_draw [(0, some true), (1, some true), (2, some true), (3, some true), (4, some true), (5, some true), (6, some true), (7, some true), (8, some true)] [] [(_, some true), (_, some true), (_, some true), (_, some true), (_, some true), (_, some true), (_, some true), (_, some true), (_, some true)] _ (blind_then (blind_block (blind_then (blind_then (blind_block (blind_then blind_body)))))) rfl (by kernel_rfl) (by kernel_rfl) rfl rfl rfl (by kernel_rfl) St.drawn (fun _ h => h) ?_
      refine d_q rfl (q_move rfl rfl) rfl rfl ?_
      refine d_q rfl (q_move rfl rfl) rfl rfl ?_
      refine d_q rfl (q_indexV k rfl Try.underlying33 Try.sizeOf121 rfl (fun _ h => ha.keep h (by simp [dom])) rfl rfl (by omega)) rfl rfl ?_
      refine d_q rfl (q_loadVAgg k rfl Try.isAgg121 Try.sizeOf121 rfl rfl (fun _ h => ha.keep h (by simp [dom])) hx) rfl rfl ?_
      refine d_q rfl (q_move rfl rfl) rfl rfl ?_
      refine d_q rfl (q_move rfl rfl) rfl rfl ?_
      refine d_q rfl (q_indexV k rfl Try.underlying33 Try.sizeOf121 rfl (fun _ h => hb.keep h (by simp [dom])) rfl rfl (by omega)) rfl rfl ?_
      refine d_q rfl (q_loadVAgg k rfl Try.isAgg121 Try.sizeOf121 rfl rfl (fun _ h => hb.keep h (by simp [dom])) hy) rfl rfl ?_
      refine d_q rfl (q_neE (x) (y) rfl rfl rfl) rfl rfl ?_
      refine d_nil ?_
      refine k_then ?_
      refine Pre.caseB 25 rfl (fun hne => ?_) (fun hne => ?_)
      · simp only [decide_eq_true_eq, decide_eq_false_iff_not, Bool.not_eq_true', Bool.not_eq_false'] at hne
        refine c_true rfl ?_
        refine c_seq ?_
        refine c_region _ rfl ?_
        refine l_q rfl (q_assign rfl rfl) rfl rfl ?_
        refine l_nil ?_
        refine k_then ?_
        refine c_ret ?_
        refine k_block_ret ?_
        refine k_then_ret ?_
        refine k_then_ret ?_
        refine k_block_ret ?_
        refine k_then_ret ?_
        refine r_one rfl rfl ?_
        exact fun _ h => ⟨(), congrArg (fun z => Ending.returned (Value.bool z)) (decide_eq_false (fun e => hne (by rw [e, hy] at hx; exact (Option.some.inj hx).symm))).symm, trivial, h⟩
      · simp only [decide_eq_true_eq, decide_eq_false_iff_not, Bool.not_eq_true', Bool.not_eq_false'] at hne
        refine c_false rfl ?_
        refine c_skip ?_
        refine k_block ?_
        refine k_then ?_
        refine c_region _ rfl ?_
        refine l_q rfl (q_move rfl rfl) rfl rfl ?_
        refine l_q rfl (q_inc rfl rfl rfl (by omega)) rfl rfl ?_
        refine l_q rfl (q_assign rfl rfl) rfl rfl ?_
        refine l_nil ?_
        exact k_round (k + 1) (by omega) ⟨by omega, take_same ht hx hy hne⟩ (Sub.cons rfl (Sub.cons rfl (Sub.cons rfl (Sub.nil)))) (fun _ h => h)
    · simp only [decide_eq_true_eq, decide_eq_false_iff_not, Bool.not_eq_true', Bool.not_eq_false'] at hlt
      refine c_false rfl ?_
      refine c_exit ?_
      refine k_then_exit ?_
      refine k_then_exit ?_
      refine k_block_exit ?_
      refine k_then ?_
      refine c_seq ?_
      refine c_region _ rfl ?_
      refine l_q rfl (q_assign rfl rfl) rfl rfl ?_
      refine l_nil ?_
      refine k_then ?_
      refine c_ret ?_
      refine r_one rfl rfl ?_
      exact fun _ h => ⟨(), congrArg (fun z => Ending.returned (Value.bool z)) (decide_eq_true (by rw [List.take_of_length_le (by omega), List.take_of_length_le (by omega)] at ht; exact ht)).symm, trivial, h⟩
set_option maxRecDepth 100000 in
set_option maxHeartbeats 1000000 in
theorem samek_nil  : Con Try.prog 67 [nil0, nil0] (fun _ => True) [] (fun _ : Unit => .bool true) (fun _ => True) (fun _ => []) := by
  intro w hE hH
  refine enter (n := 26) (vs := [nil0, nil0]) (St w [] []) Try.func67 rfl rfl rfl (St.init hH) ?_
  refine c_seq ?_
  refine c_region _ rfl ?_
  refine l_q rfl (q_assign rfl rfl) rfl rfl ?_
  refine l_nil ?_
  refine k_then ?_
  refine c_seq ?_
  refine c_seq ?_
  refine c_region _ rfl ?_
  refine l_q rfl (q_move rfl rfl) rfl rfl ?_
  refine l_q rfl (q_len rfl Try.underlying34 rfl) rfl rfl ?_
  refine l_q rfl (q_move rfl rfl) rfl rfl ?_
  refine l_q rfl (q_len rfl Try.underlying34 rfl) rfl rfl ?_
  refine l_q rfl (q_neq rfl rfl rfl) rfl rfl ?_
  refine l_nil ?_
  refine k_then ?_
  refine Pre.setB (t := 10) (c := false) rfl (rfl) ?_
  refine c_false rfl ?_
  refine c_skip ?_
  refine k_then ?_
  refine c_seq ?_
  refine c_seq ?_
  refine c_region _ rfl ?_
  refine l_q rfl (q_assign rfl rfl) rfl rfl ?_
  refine l_nil ?_
  refine k_then ?_
  refine c_block ?_
  refine c_loop1 (fun (u : Unit) => [(0, nil0), (1, nil0), (5, .int .i64 0)]) (fun (u : Unit) => St w [] []) (fun (u : Unit) => True) (fun (u : Unit) => 0) (()) trivial (Sub.cons rfl (Sub.cons rfl (Sub.cons rfl (Sub.nil)))) (fun _ h => h) ?_
  intro u _
  refine c_seq ?_
  refine c_seq ?_
  refine c_region _ rfl ?_
  refine l_q rfl (q_move rfl rfl) rfl rfl ?_
  refine l_q rfl (q_move rfl rfl) rfl rfl ?_
  refine l_q rfl (q_len rfl Try.underlying34 rfl) rfl rfl ?_
  refine l_q rfl (q_lss rfl rfl rfl) rfl rfl ?_
  refine l_nil ?_
  refine k_then ?_
  refine Pre.setB (t := 14) (c := false) rfl (rfl) ?_
  refine c_false rfl ?_
  refine c_exit ?_
  refine k_then_exit ?_
  refine k_then_exit ?_
  refine k_block_exit ?_
  refine k_then ?_
  refine c_seq ?_
  refine c_region _ rfl ?_
  refine l_q rfl (q_assign rfl rfl) rfl rfl ?_
  refine l_nil ?_
  refine k_then ?_
  refine c_ret ?_
  refine r_one rfl rfl ?_
  exact fun _ h => ⟨(), rfl, trivial, h⟩
set_option maxRecDepth 100000 in
set_option maxHeartbeats 1000000 in
theorem samem_nil  : Con Try.prog 68 [nil0, nil0] (fun _ => True) [] (fun _ : Unit => .bool true) (fun _ => True) (fun _ => []) := by
  intro w hE hH
  refine enter (n := 26) (vs := [nil0, nil0]) (St w [] []) Try.func68 rfl rfl rfl (St.init hH) ?_
  refine c_seq ?_
  refine c_region _ rfl ?_
  refine l_q rfl (q_assign rfl rfl) rfl rfl ?_
  refine l_nil ?_
  refine k_then ?_
  refine c_seq ?_
  refine c_seq ?_
  refine c_region _ rfl ?_
  refine l_q rfl (q_move rfl rfl) rfl rfl ?_
  refine l_q rfl (q_len rfl Try.underlying35 rfl) rfl rfl ?_
  refine l_q rfl (q_move rfl rfl) rfl rfl ?_
  refine l_q rfl (q_len rfl Try.underlying35 rfl) rfl rfl ?_
  refine l_q rfl (q_neq rfl rfl rfl) rfl rfl ?_
  refine l_nil ?_
  refine k_then ?_
  refine Pre.setB (t := 10) (c := false) rfl (rfl) ?_
  refine c_false rfl ?_
  refine c_skip ?_
  refine k_then ?_
  refine c_seq ?_
  refine c_seq ?_
  refine c_region _ rfl ?_
  refine l_q rfl (q_assign rfl rfl) rfl rfl ?_
  refine l_nil ?_
  refine k_then ?_
  refine c_block ?_
  refine c_loop1 (fun (u : Unit) => [(0, nil0), (1, nil0), (5, .int .i64 0)]) (fun (u : Unit) => St w [] []) (fun (u : Unit) => True) (fun (u : Unit) => 0) (()) trivial (Sub.cons rfl (Sub.cons rfl (Sub.cons rfl (Sub.nil)))) (fun _ h => h) ?_
  intro u _
  refine c_seq ?_
  refine c_seq ?_
  refine c_region _ rfl ?_
  refine l_q rfl (q_move rfl rfl) rfl rfl ?_
  refine l_q rfl (q_move rfl rfl) rfl rfl ?_
  refine l_q rfl (q_len rfl Try.underlying35 rfl) rfl rfl ?_
  refine l_q rfl (q_lss rfl rfl rfl) rfl rfl ?_
  refine l_nil ?_
  refine k_then ?_
  refine Pre.setB (t := 14) (c := false) rfl (rfl) ?_
  refine c_false rfl ?_
  refine c_exit ?_
  refine k_then_exit ?_
  refine k_then_exit ?_
  refine k_block_exit ?_
  refine k_then ?_
  refine c_seq ?_
  refine c_region _ rfl ?_
  refine l_q rfl (q_assign rfl rfl) rfl rfl ?_
  refine l_nil ?_
  refine k_then ?_
  refine c_ret ?_
  refine r_one rfl rfl ?_
  exact fun _ h => ⟨(), rfl, trivial, h⟩
set_option maxRecDepth 100000 in
set_option maxHeartbeats 1000000 in
theorem block_spec (x : Int) : Con Try.prog 36 [.int .i64 x] (fun _ => True) [] (fun _ : Unit => .bool (bkB x)) (fun _ => True) (fun _ => []) := by
  intro w hE hH
  refine enter (n := 9) (vs := [.int .i64 x]) (St w [] []) Try.func36 rfl rfl rfl (St.init hH) ?_
  refine c_seq ?_
  refine c_region _ rfl ?_
  refine l_q rfl (q_assign rfl rfl) rfl rfl ?_
  refine l_nil ?_
  refine k_then ?_
  refine c_seq ?_
  refine c_region _ rfl ?_
  refine l_q rfl (q_move rfl rfl) rfl rfl ?_
  refine l_q rfl (q_geq rfl rfl rfl) rfl rfl ?_
  refine l_q rfl (q_move rfl rfl) rfl rfl ?_
  refine Pre.caseB 5 rfl (fun h1 => ?_) (fun h1 => ?_)
  · simp only [decide_eq_true_eq, decide_eq_false_iff_not, Bool.not_eq_true', Bool.not_eq_false'] at h1
    refine l_q rfl (q_move rfl rfl) rfl rfl ?_
    refine l_q rfl (q_lss rfl rfl rfl) rfl rfl ?_
    refine l_q rfl (q_pick_t rfl rfl rfl) rfl rfl ?_
    refine l_q rfl (q_assign rfl rfl) rfl rfl ?_
    refine l_nil ?_
    refine k_then ?_
    refine c_ret ?_
    refine r_one rfl rfl ?_
    exact fun _ h => ⟨(), congrArg (fun z => Ending.returned (Value.bool z)) (by unfold bkB; rw [decide_eq_true h1]; rfl), trivial, h⟩
  · simp only [decide_eq_true_eq, decide_eq_false_iff_not, Bool.not_eq_true', Bool.not_eq_false'] at h1
    refine l_not rfl rfl rfl ?_
    refine l_not rfl rfl rfl ?_
    refine l_q rfl (q_pick_f rfl rfl rfl) rfl rfl ?_
    refine l_q rfl (q_assign rfl rfl) rfl rfl ?_
    refine l_nil ?_
    refine k_then ?_
    refine c_ret ?_
    refine r_one rfl rfl ?_
    exact fun _ h => ⟨(), congrArg (fun z => Ending.returned (Value.bool z)) (by unfold bkB; rw [decide_eq_false (by omega)]; rfl), trivial, h⟩
set_option maxRecDepth 100000 in
set_option maxHeartbeats 1000000 in
theorem task_spec (x : Int) : Con Try.prog 43 [.int .i64 x] (fun _ => True) [] (fun _ : Unit => .bool (tkB x)) (fun _ => True) (fun _ => []) := by
  intro w hE hH
  refine enter (n := 9) (vs := [.int .i64 x]) (St w [] []) Try.func43 rfl rfl rfl (St.init hH) ?_
  refine c_seq ?_
  refine c_region _ rfl ?_
  refine l_q rfl (q_assign rfl rfl) rfl rfl ?_
  refine l_nil ?_
  refine k_then ?_
  refine c_seq ?_
  refine c_region _ rfl ?_
  refine l_q rfl (q_move rfl rfl) rfl rfl ?_
  refine l_q rfl (q_geq rfl rfl rfl) rfl rfl ?_
  refine l_q rfl (q_move rfl rfl) rfl rfl ?_
  refine Pre.caseB 5 rfl (fun h1 => ?_) (fun h1 => ?_)
  · simp only [decide_eq_true_eq, decide_eq_false_iff_not, Bool.not_eq_true', Bool.not_eq_false'] at h1
    refine l_q rfl (q_move rfl rfl) rfl rfl ?_
    refine l_q rfl (q_lss rfl rfl rfl) rfl rfl ?_
    refine l_q rfl (q_pick_t rfl rfl rfl) rfl rfl ?_
    refine l_q rfl (q_assign rfl rfl) rfl rfl ?_
    refine l_nil ?_
    refine k_then ?_
    refine c_ret ?_
    refine r_one rfl rfl ?_
    exact fun _ h => ⟨(), congrArg (fun z => Ending.returned (Value.bool z)) (by unfold tkB; rw [decide_eq_true h1]; rfl), trivial, h⟩
  · simp only [decide_eq_true_eq, decide_eq_false_iff_not, Bool.not_eq_true', Bool.not_eq_false'] at h1
    refine l_not rfl rfl rfl ?_
    refine l_not rfl rfl rfl ?_
    refine l_q rfl (q_pick_f rfl rfl rfl) rfl rfl ?_
    refine l_q rfl (q_assign rfl rfl) rfl rfl ?_
    refine l_nil ?_
    refine k_then ?_
    refine c_ret ?_
    refine r_one rfl rfl ?_
    exact fun _ h => ⟨(), congrArg (fun z => Ending.returned (Value.bool z)) (by unfold tkB; rw [decide_eq_false (by omega)]; rfl), trivial, h⟩
set_option maxRecDepth 100000 in
set_option maxHeartbeats 1000000 in
theorem rblock_spec (x : Int) : Con Try.prog 85 [.int .i64 x] (fun _ => True) [] (fun _ : Unit => .bool (bkB x)) (fun _ => True) (fun _ => []) := by
  intro w hE hH
  refine enter (n := 9) (vs := [.int .i64 x]) (St w [] []) Try.func85 rfl rfl rfl (St.init hH) ?_
  refine c_seq ?_
  refine c_region _ rfl ?_
  refine l_q rfl (q_assign rfl rfl) rfl rfl ?_
  refine l_nil ?_
  refine k_then ?_
  refine c_seq ?_
  refine c_region _ rfl ?_
  refine l_q rfl (q_move rfl rfl) rfl rfl ?_
  refine l_q rfl (q_geq rfl rfl rfl) rfl rfl ?_
  refine l_q rfl (q_move rfl rfl) rfl rfl ?_
  refine Pre.caseB 5 rfl (fun h1 => ?_) (fun h1 => ?_)
  · simp only [decide_eq_true_eq, decide_eq_false_iff_not, Bool.not_eq_true', Bool.not_eq_false'] at h1
    refine l_q rfl (q_move rfl rfl) rfl rfl ?_
    refine l_q rfl (q_lss rfl rfl rfl) rfl rfl ?_
    refine l_q rfl (q_pick_t rfl rfl rfl) rfl rfl ?_
    refine l_q rfl (q_assign rfl rfl) rfl rfl ?_
    refine l_nil ?_
    refine k_then ?_
    refine c_ret ?_
    refine r_one rfl rfl ?_
    exact fun _ h => ⟨(), congrArg (fun z => Ending.returned (Value.bool z)) (by unfold bkB; rw [decide_eq_true h1]; rfl), trivial, h⟩
  · simp only [decide_eq_true_eq, decide_eq_false_iff_not, Bool.not_eq_true', Bool.not_eq_false'] at h1
    refine l_not rfl rfl rfl ?_
    refine l_not rfl rfl rfl ?_
    refine l_q rfl (q_pick_f rfl rfl rfl) rfl rfl ?_
    refine l_q rfl (q_assign rfl rfl) rfl rfl ?_
    refine l_nil ?_
    refine k_then ?_
    refine c_ret ?_
    refine r_one rfl rfl ?_
    exact fun _ h => ⟨(), congrArg (fun z => Ending.returned (Value.bool z)) (by unfold bkB; rw [decide_eq_false (by omega)]; rfl), trivial, h⟩
set_option maxRecDepth 100000 in
set_option maxHeartbeats 1000000 in
theorem rtask_spec (x : Int) : Con Try.prog 84 [.int .i64 x] (fun _ => True) [] (fun _ : Unit => .bool (tkB x)) (fun _ => True) (fun _ => []) := by
  intro w hE hH
  refine enter (n := 9) (vs := [.int .i64 x]) (St w [] []) Try.func84 rfl rfl rfl (St.init hH) ?_
  refine c_seq ?_
  refine c_region _ rfl ?_
  refine l_q rfl (q_assign rfl rfl) rfl rfl ?_
  refine l_nil ?_
  refine k_then ?_
  refine c_seq ?_
  refine c_region _ rfl ?_
  refine l_q rfl (q_move rfl rfl) rfl rfl ?_
  refine l_q rfl (q_geq rfl rfl rfl) rfl rfl ?_
  refine l_q rfl (q_move rfl rfl) rfl rfl ?_
  refine Pre.caseB 5 rfl (fun h1 => ?_) (fun h1 => ?_)
  · simp only [decide_eq_true_eq, decide_eq_false_iff_not, Bool.not_eq_true', Bool.not_eq_false'] at h1
    refine l_q rfl (q_move rfl rfl) rfl rfl ?_
    refine l_q rfl (q_lss rfl rfl rfl) rfl rfl ?_
    refine l_q rfl (q_pick_t rfl rfl rfl) rfl rfl ?_
    refine l_q rfl (q_assign rfl rfl) rfl rfl ?_
    refine l_nil ?_
    refine k_then ?_
    refine c_ret ?_
    refine r_one rfl rfl ?_
    exact fun _ h => ⟨(), congrArg (fun z => Ending.returned (Value.bool z)) (by unfold tkB; rw [decide_eq_true h1]; rfl), trivial, h⟩
  · simp only [decide_eq_true_eq, decide_eq_false_iff_not, Bool.not_eq_true', Bool.not_eq_false'] at h1
    refine l_not rfl rfl rfl ?_
    refine l_not rfl rfl rfl ?_
    refine l_q rfl (q_pick_f rfl rfl rfl) rfl rfl ?_
    refine l_q rfl (q_assign rfl rfl) rfl rfl ?_
    refine l_nil ?_
    refine k_then ?_
    refine c_ret ?_
    refine r_one rfl rfl ?_
    exact fun _ h => ⟨(), congrArg (fun z => Ending.returned (Value.bool z)) (by unfold tkB; rw [decide_eq_false (by omega)]; rfl), trivial, h⟩
end Go.Proofs.Ytpfbagkjhchojaa
