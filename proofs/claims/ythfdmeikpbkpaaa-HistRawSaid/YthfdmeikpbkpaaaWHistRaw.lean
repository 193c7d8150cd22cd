/- HistRaw, walked -/
import Derived.Test.YthfdmeikpbkpaaaT
import Derived.Test.YthfdmeikpbkpaaaU
import Derived.Test.YthfdmeikpbkpaaaNest
set_option linter.unusedVariables false
set_option linter.unusedSimpArgs false
namespace Go.Proofs.Ythfdmeikpbkpaaa
open Go.Sep Go.RowKit

theorem kv_mk {m : Nat} {x : List Value} (h : Kinds (Kv.ks m) x) : ∃ k : Kv m, x = k.c := by
  obtain ⟨h1, h2⟩ := h
  cases x with
  | nil => simp [Kv.ks] at h1
  | cons u x =>
    obtain ⟨z, rfl, hz⟩ := h2 0 (.i .i64) u rfl rfl
    have hl : x.length = m := by simp [Kv.ks] at h1; omega
    have hall : ∀ v ∈ x, ∃ y, v = .int .u8 y ∧ (Lit.int .u8 y).wf = true := fun v hv => by
      obtain ⟨i, hi, rfl⟩ := List.mem_iff_getElem.1 hv
      have hi2 : i < m := by omega
      exact h2 (i + 1) (.i .u8) x[i] (by simp [Kv.ks, hi2]) (by simp [hi])
    clear h1 h2
    have key : ∀ x : List Value, (∀ v ∈ x, ∃ y, v = .int .u8 y ∧ (Lit.int .u8 y).wf = true) → ∃ b : List Int, x = b.map (.int .u8) ∧ ∀ y ∈ b, (Lit.int .u8 y).wf = true := by
      intro x
      induction x with
      | nil => intro _; exact ⟨[], rfl, by simp⟩
      | cons v x ih =>
        intro h
        obtain ⟨y, rfl, hy⟩ := h v (List.mem_cons_self ..)
        obtain ⟨b, rfl, hb⟩ := ih (fun u hu => h u (List.mem_cons_of_mem _ hu))
        exact ⟨y :: b, rfl, fun q hq => by rcases List.mem_cons.1 hq with rfl | hq; exact hy; exact hb q hq⟩
    obtain ⟨b, rfl, hb⟩ := key x hall
    exact ⟨⟨z, b, by simpa using hl, hz, hb⟩, rfl⟩

theorem kinds_take {a b : List Sc} {x : List Value} (h : Kinds (a ++ b) x) : ∃ u v, x = u ++ v ∧ Kinds a u ∧ Kinds b v := by
  have := Kinds.part h
  exact ⟨x.take a.length, x.drop a.length, (List.take_append_drop ..).symm, this.1, this.2⟩

/-! ## Opening -/
theorem op_mk {x : List Value} (h : Kinds Op.ks x) : ∃ o : Op, x = o.c := by
  obtain ⟨a, x1, rfl, ha, hx1⟩ := kinds_take (a := [Sc.i .i64]) (b := [Sc.s] ++ ([Sc.s] ++ [Sc.i .u64])) h
  obtain ⟨b, x2, rfl, hb, hx2⟩ := kinds_take hx1
  obtain ⟨c, x3, rfl, hc, hx3⟩ := kinds_take hx2
  obtain ⟨_, rfl, z, rfl, hz⟩ := one_of ha
  obtain ⟨_, rfl, y, rfl, hy⟩ := one_of hb
  obtain ⟨_, rfl, v, rfl, hv⟩ := one_of hc
  obtain ⟨_, rfl, q, rfl, hq⟩ := one_of hx3
  exact ⟨⟨z, y, v, q, hz, hq, hy, hv⟩, rfl⟩
theorem an_mk {x : List Value} (h : Kinds An.ks x) : ∃ a : An, x = a.c := by
  obtain ⟨a, x1, rfl, ha, hx1⟩ := kinds_take (a := [Sc.i .i64]) (b := [Sc.b] ++ Kv.ks 16) h
  obtain ⟨b, x2, rfl, hb, hx2⟩ := kinds_take hx1
  obtain ⟨_, rfl, z, rfl, hz⟩ := one_of ha
  obtain ⟨_, rfl, y, rfl⟩ := one_of hb
  obtain ⟨v, rfl⟩ := kv_mk hx2
  exact ⟨⟨z, y, v, hz⟩, rfl⟩
theorem ev_mk {x : List Value} (h : Kinds Ev.ks x) : ∃ e : Ev, x = e.c := by
  obtain ⟨a, x1, rfl, ha, hx1⟩ := kinds_take (a := [Sc.i .i64]) (b := [Sc.i .i64] ++ ([Sc.b] ++ An.ks)) h
  obtain ⟨b, x2, rfl, hb, hx2⟩ := kinds_take hx1
  obtain ⟨c, x3, rfl, hc, hx3⟩ := kinds_take hx2
  obtain ⟨_, rfl, z, rfl, hz⟩ := one_of ha
  obtain ⟨_, rfl, y, rfl, hy⟩ := one_of hb
  obtain ⟨_, rfl, d, rfl⟩ := one_of hc
  obtain ⟨v, rfl⟩ := an_mk hx3
  exact ⟨⟨z, y, d, v, hz, hy⟩, rfl⟩
theorem ca_mk {x : List Value} (h : Kinds Ca.ks x) : ∃ e : Ca, x = e.c := by
  obtain ⟨a, x1, rfl, ha, hx1⟩ := kinds_take (a := [Sc.i .i64]) (b := [Sc.i .i64] ++ (Op.ks ++ ([Sc.i .i64] ++ ([Sc.i .i64] ++ An.ks)))) h
  obtain ⟨b, x2, rfl, hb, hx2⟩ := kinds_take hx1
  obtain ⟨c, x3, rfl, hc, hx3⟩ := kinds_take hx2
  obtain ⟨d, x4, rfl, hd, hx4⟩ := kinds_take hx3
  obtain ⟨f, x5, rfl, hf, hx5⟩ := kinds_take hx4
  obtain ⟨_, rfl, z, rfl, hz⟩ := one_of ha
  obtain ⟨_, rfl, y, rfl, hy⟩ := one_of hb
  obtain ⟨o, rfl⟩ := op_mk hc
  obtain ⟨_, rfl, p, rfl, hp⟩ := one_of hd
  obtain ⟨_, rfl, q, rfl, hq⟩ := one_of hf
  obtain ⟨v, rfl⟩ := an_mk hx5
  exact ⟨⟨z, y, o, p, q, v, hz, hy, hp, hq⟩, by simp [Ca.c]⟩
theorem raw_rows {w : World} {A : Option Addr} {n c : Nat} {ss : List (Option Addr × Nat × Nat)} (hl : ss.length = n) (hc : n ≤ c) (hr : Rd w w.heap.size A (ss.map fun s => .slice s.1 s.2.1 s.2.2))
    (h : ∀ (i : Nat) (s : Option Addr × Nat × Nat), ss[i]? = some s → s.2.1 ≤ s.2.2 ∧ s.2.2 ≤ maxLen ∧ ∃ xs : List Value, xs.length = s.2.1 * Op.ks.length ∧ Rd w w.heap.size s.1 xs ∧ ∀ j, j < s.2.1 → Kinds Op.ks ((xs.drop (j * Op.ks.length)).take Op.ks.length)) :
    ∃ (vs : List Sv) (ops : List (List Op)), RR w (.slice A n c) vs ops := by
  obtain ⟨ops, ho, hq⟩ := exists_list (Q := fun i (o : List Op) => ∀ s : Option Addr × Nat × Nat, ss[i]? = some s → RdV w (.slice s.1 s.2.1 s.2.2) Op.enc o) ss.length (fun i hi => by
    obtain ⟨s, hs⟩ : ∃ s, ss[i]? = some s := ⟨_, List.getElem?_eq_getElem hi⟩
    obtain ⟨h1, h2, xs, h3, h4, h5⟩ := h i s hs
    obtain ⟨l, rfl, hn, _⟩ := flat_of Op.enc (ks := Op.ks) (W := fun _ => True) rfl (fun cs h => let ⟨k, e⟩ := op_mk h; ⟨k, e, trivial⟩) s.2.1 xs h3 h5
    refine ⟨l, fun t ht => ?_⟩
    rw [hs] at ht; cases ht
    have := rdv_of h4 (by rw [hn]; exact h1)
    rw [hn] at this; exact this)
  refine ⟨ss.map (fun s => ⟨s.1, s.2.1, s.2.2⟩), ops, ?_, by rw [List.length_map, ho], fun i s o h1 h2 => ?_⟩
  · have hf : encSv.flat (ss.map (fun s => (⟨s.1, s.2.1, s.2.2⟩ : Sv))) = ss.map fun s => .slice s.1 s.2.1 s.2.2 := by
      rw [flat_one' encSv Sv.v (fun _ => rfl), List.map_map]; rfl
    have := rdv_of (E := encSv) (l := ss.map (fun s => (⟨s.1, s.2.1, s.2.2⟩ : Sv))) (A := A) (c := c) (B := w.heap.size) (w := w) (by rw [hf]; exact hr) (by rw [List.length_map]; omega)
    rw [List.length_map, hl] at this; exact this
  · rw [List.getElem?_map, Option.map_eq_some_iff] at h1
    obtain ⟨t, ht, rfl⟩ := h1
    exact hq i o h2 t ht

set_option maxRecDepth 100000 in
set_option maxHeartbeats 1000000 in
theorem raw_spec {va vo vl : Value} (ev : List Ev) (vs : List Sv) (ops : List (List Op)) (l : List Ca) (o : Op) : Con Try.prog 4 [va, vo, vl, .agg o.c.toArray] (fun w => RdV w va Ev.enc ev ∧ RR w vo vs ops ∧ RdV w vl Ca.enc l) [] (fun _ : Unit => .bool true) (fun _ => True) (fun _ => []) := by
  intro w hE hH
  obtain ⟨hl, ⟨hvo, hvl, hin⟩, hcl⟩ := hE
  refine enter (n := 105) (vs := [va, vo, vl, .agg o.c.toArray]) (St w [] []) Try.func4 rfl rfl rfl (St.init hH) ?_
  refine c_seq ?_
  refine c_region _ rfl ?_
  refine l_e rfl ?_
  refine e_box rfl rfl rfl rfl ?_
  intro bo
  refine cells_eq (show _ = o.c from rfl) ?_
  refine l_q rfl (q_assign rfl rfl) rfl rfl ?_
  refine l_nil ?_
  refine k_then ?_
  refine c_seq ?_
  refine c_seq ?_
  refine c_region _ rfl ?_
  refine l_q rfl (q_move rfl rfl) rfl rfl ?_
  refine l_q rfl (q_lenV rfl Try.underlying26 rfl (fun _ h => hl.keep h (by simp [dom]))) rfl rfl ?_
  refine l_q rfl (q_gtr rfl rfl rfl) rfl rfl ?_
  refine l_q rfl (q_move rfl rfl) rfl rfl ?_
  refine Pre.caseB 14 rfl (fun g1 => ?_) (fun g1 => ?_)
  · simp only [decide_eq_true_eq, decide_eq_false_iff_not, Bool.not_eq_true', Bool.not_eq_false'] at g1
    refine l_not rfl rfl rfl ?_
    refine l_not rfl rfl rfl ?_
    refine l_not rfl rfl rfl ?_
    refine l_q rfl (q_pick_t rfl rfl rfl) rfl rfl ?_
    refine l_q rfl (q_move rfl rfl) rfl rfl ?_
    refine l_not rfl rfl rfl ?_
    refine l_not rfl rfl rfl ?_
    refine l_not rfl rfl rfl ?_
    refine l_q rfl (q_pick_t rfl rfl rfl) rfl rfl ?_
    refine l_nil ?_
    refine k_then ?_
    refine c_true rfl ?_
    refine c_seq ?_
    refine c_region _ rfl ?_
    refine l_e rfl ?_
    refine e_call_00 (awake_spec) rfl rfl rfl Try.call20 rfl (fun _ _ => trivial) ?_
    intro _ _
    refine l_q rfl (q_assign rfl rfl) rfl rfl ?_
    refine l_nil ?_
    refine k_then ?_
    refine c_ret ?_
    refine k_then_ret ?_
    refine r_one rfl rfl ?_
    exact fun _ h => ⟨(), rfl, trivial, h.nothing⟩
  · simp only [decide_eq_true_eq, decide_eq_false_iff_not, Bool.not_eq_true', Bool.not_eq_false'] at g1
    refine l_q rfl (q_move rfl rfl) rfl rfl ?_
    refine l_q rfl (q_lenV rfl Try.underlying23 rfl (fun _ h => hvo.keep h (by simp [dom]))) rfl rfl ?_
    refine l_q rfl (q_gtr rfl rfl rfl) rfl rfl ?_
    refine l_q rfl (q_pick_f rfl rfl rfl) rfl rfl ?_
    refine l_q rfl (q_move rfl rfl) rfl rfl ?_
    refine Pre.caseB 19 rfl (fun g2 => ?_) (fun g2 => ?_)
    · simp only [decide_eq_true_eq, decide_eq_false_iff_not, Bool.not_eq_true', Bool.not_eq_false'] at g2
      refine l_not rfl rfl rfl ?_
      refine l_not rfl rfl rfl ?_
      refine l_not rfl rfl rfl ?_
      refine l_q rfl (q_pick_t rfl rfl rfl) rfl rfl ?_
      refine l_nil ?_
      refine k_then ?_
      refine c_true rfl ?_
      refine c_seq ?_
      refine c_region _ rfl ?_
      refine l_e rfl ?_
      refine e_call_00 (awake_spec) rfl rfl rfl Try.call20 rfl (fun _ _ => trivial) ?_
      intro _ _
      refine l_q rfl (q_assign rfl rfl) rfl rfl ?_
      refine l_nil ?_
      refine k_then ?_
      refine c_ret ?_
      refine k_then_ret ?_
      refine r_one rfl rfl ?_
      exact fun _ h => ⟨(), rfl, trivial, h.nothing⟩
    · simp only [decide_eq_true_eq, decide_eq_false_iff_not, Bool.not_eq_true', Bool.not_eq_false'] at g2
      refine l_q rfl (q_move rfl rfl) rfl rfl ?_
      refine l_q rfl (q_lenV rfl Try.underlying28 rfl (fun _ h => hcl.keep h (by simp [dom]))) rfl rfl ?_
      refine l_q rfl (q_gtr rfl rfl rfl) rfl rfl ?_
      refine l_q rfl (q_pick_f rfl rfl rfl) rfl rfl ?_
      refine l_nil ?_
      refine k_then ?_
      refine Pre.caseB 23 rfl (fun g3 => ?_) (fun g3 => ?_)
      · simp only [decide_eq_true_eq, decide_eq_false_iff_not, Bool.not_eq_true', Bool.not_eq_false'] at g3
        refine c_true rfl ?_
        refine c_seq ?_
        refine c_region _ rfl ?_
        refine l_e rfl ?_
        refine e_call_00 (awake_spec) rfl rfl rfl Try.call20 rfl (fun _ _ => trivial) ?_
        intro _ _
        refine l_q rfl (q_assign rfl rfl) rfl rfl ?_
        refine l_nil ?_
        refine k_then ?_
        refine c_ret ?_
        refine k_then_ret ?_
        refine r_one rfl rfl ?_
        exact fun _ h => ⟨(), rfl, trivial, h.nothing⟩
      · simp only [decide_eq_true_eq, decide_eq_false_iff_not, Bool.not_eq_true', Bool.not_eq_false'] at g3
        refine c_false rfl ?_
        refine c_skip ?_
        refine k_then ?_
        refine c_seq ?_
        refine c_seq ?_
        refine c_region _ rfl ?_
        refine l_q rfl (q_assign rfl rfl) rfl rfl ?_
        refine l_nil ?_
        refine k_then ?_
        refine c_block ?_
        refine c_loop1 (fun (i : Nat) => [(0, va), (1, vo), (2, vl), (7, .pointer (some ⟨bo, 0, none⟩)), (9, .int .i64 (i : Int))]) (fun (i : Nat) => St w [] [cellsE bo 37 o.c]) (fun (i : Nat) => i ≤ vs.length ∧ ∀ j lo, j < i → ops[j]? = some lo → lo.length ≤ 30) (fun (i : Nat) => vs.length - i) (0) ⟨Nat.zero_le _, fun j lo h => by omega⟩ (Sub.cons rfl (Sub.cons rfl (Sub.cons rfl (Sub.cons rfl (Sub.cons rfl (Sub.nil)))))) (fun _ h => h) ?_
        intro i hp
        refine c_seq ?_
        refine c_seq ?_
        obtain ⟨hi, hall⟩ := hp
        refine c_region _ rfl ?_
        refine l_q rfl (q_move rfl rfl) rfl rfl ?_
        refine l_q rfl (q_move rfl rfl) rfl rfl ?_
        refine l_q rfl (q_lenV rfl Try.underlying23 rfl (fun _ h => hvo.keep h (by simp [dom]))) rfl rfl ?_
        refine l_q rfl (q_lss rfl rfl rfl) rfl rfl ?_
        refine l_nil ?_
        refine k_then ?_
        refine Pre.caseB 28 rfl (fun h1 => ?_) (fun h1 => ?_)
        · simp only [decide_eq_true_eq, decide_eq_false_iff_not, Bool.not_eq_true', Bool.not_eq_false'] at h1
          obtain ⟨s, hs⟩ : ∃ s, vs[i]? = some s := ⟨_, List.getElem?_eq_getElem (by omega)⟩
          obtain ⟨lo, hlo⟩ : ∃ lo, ops[i]? = some lo := ⟨_, List.getElem?_eq_getElem (by omega)⟩
          have hrd := hin i s lo hs hlo
          refine c_true rfl ?_
          refine c_skip ?_
          refine k_then ?_
          refine c_seq ?_
          refine c_block ?_
          refine c_seq ?_
          refine c_region _ rfl ?_
          refine l_q rfl (q_move rfl rfl) rfl rfl ?_
          refine l_q rfl (q_move rfl rfl) rfl rfl ?_
          refine l_q rfl (q_indexV i rfl Try.underlying23 Try.sizeOf38 rfl (fun _ h => hvo.keep h (by simp [dom])) rfl rfl (by omega)) rfl rfl ?_
          refine l_q rfl (q_loadV i 0 rfl Try.isAgg38 rfl rfl (fun _ h => hvo.keep h (by simp [dom])) hs rfl) rfl rfl ?_
          refine l_q rfl (q_lenV rfl Try.underlying38 rfl (fun _ h => hrd.keep h (by simp [dom]))) rfl rfl ?_
          refine l_q rfl (q_gtr rfl rfl rfl) rfl rfl ?_
          refine l_nil ?_
          refine k_then ?_
          refine Pre.caseB 36 rfl (fun h2 => ?_) (fun h2 => ?_)
          · simp only [decide_eq_true_eq, decide_eq_false_iff_not, Bool.not_eq_true', Bool.not_eq_false'] at h2
            refine c_true rfl ?_
            refine c_seq ?_
            refine c_region _ rfl ?_
            refine l_e rfl ?_
            refine e_call_00 (awake_spec) rfl rfl rfl Try.call20 rfl (fun _ _ => trivial) ?_
            intro _ _
            refine l_q rfl (q_assign rfl rfl) rfl rfl ?_
            refine l_nil ?_
            refine k_then ?_
            refine c_ret ?_
            refine k_block_ret ?_
            refine k_then_ret ?_
            refine k_then_ret ?_
            refine k_block_ret ?_
            refine k_then_ret ?_
            refine r_one rfl rfl ?_
            exact fun _ h => ⟨(), rfl, trivial, h.nothing⟩
          · simp only [decide_eq_true_eq, decide_eq_false_iff_not, Bool.not_eq_true', Bool.not_eq_false'] at h2
            refine c_false rfl ?_
            refine c_skip ?_
            refine k_block ?_
            refine k_then ?_
            refine c_region _ rfl ?_
            refine l_q rfl (q_move rfl rfl) rfl rfl ?_
            refine l_q rfl (q_inc rfl rfl rfl (by omega)) rfl rfl ?_
            refine l_q rfl (q_assign rfl rfl) rfl rfl ?_
            refine l_nil ?_
            exact k_round (i + 1) (by omega) ⟨by omega, fun j lo' h3 h4 => by
                rcases Nat.lt_succ_iff_lt_or_eq.1 h3 with h5 | rfl
                · exact hall j lo' h5 h4
                · rw [hlo] at h4; cases h4; omega⟩ (Sub.cons rfl (Sub.cons rfl (Sub.cons rfl (Sub.cons rfl (Sub.cons rfl (Sub.nil)))))) (fun _ h => h)
        · simp only [decide_eq_true_eq, decide_eq_false_iff_not, Bool.not_eq_true', Bool.not_eq_false'] at h1
          have hO : ∀ lo ∈ ops, lo.length ≤ 65536 := fun lo hm => by
            obtain ⟨j, hj⟩ := List.mem_iff_getElem?.1 hm
            have := (List.getElem?_eq_some_iff.1 hj).1
            have := hall j lo (by omega) hj
            omega
          refine c_false rfl ?_
          refine c_exit ?_
          refine k_then_exit ?_
          refine k_then_exit ?_
          refine k_block_exit ?_
          refine k_then ?_
          refine c_seq ?_
          refine c_seq ?_
          refine c_region _ rfl ?_
          refine l_q rfl (q_assign rfl rfl) rfl rfl ?_
          refine l_nil ?_
          refine k_then ?_
          refine c_block ?_
          refine c_loop1 (fun (i : Nat) => [(0, va), (1, vo), (2, vl), (7, .pointer (some ⟨bo, 0, none⟩)), (10, .int .i64 (i : Int))]) (fun (i : Nat) => St w [] [cellsE bo 37 o.c]) (fun (i : Nat) => 1 ≤ i) (fun (i : Nat) => l.length - i) (1) (Nat.le_refl _) (Sub.cons rfl (Sub.cons rfl (Sub.cons rfl (Sub.cons rfl (Sub.cons rfl (Sub.nil)))))) (fun _ h => h) ?_
          intro i h1i
          refine c_seq ?_
          refine c_seq ?_
          refine c_region _ rfl ?_
          refine l_q rfl (q_move rfl rfl) rfl rfl ?_
          refine l_q rfl (q_move rfl rfl) rfl rfl ?_
          refine l_q rfl (q_lenV rfl Try.underlying28 rfl (fun _ h => hcl.keep h (by simp [dom]))) rfl rfl ?_
          refine l_q rfl (q_lss rfl rfl rfl) rfl rfl ?_
          refine l_nil ?_
          refine k_then ?_
          refine Pre.caseB 41 rfl (fun h3 => ?_) (fun h3 => ?_)
          · simp only [decide_eq_true_eq, decide_eq_false_iff_not, Bool.not_eq_true', Bool.not_eq_false'] at h3
            obtain ⟨j, hj⟩ : ∃ j, i = j + 1 := ⟨i - 1, by omega⟩
            obtain ⟨x, hx⟩ : ∃ x, l[i]? = some x := ⟨_, List.getElem?_eq_getElem (by omega)⟩
            obtain ⟨y, hy⟩ : ∃ y, l[j]? = some y := ⟨_, List.getElem?_eq_getElem (by omega)⟩
            have hij : (i : Int) - 1 = (j : Int) := by omega
            refine c_true rfl ?_
            refine c_skip ?_
            refine k_then ?_
            refine c_seq ?_
            refine c_block ?_
            refine c_seq ?_
            refine c_draw [(0, some true), (1, some true), (2, some true), (3, some true), (4, some true), (5, some true), (6, some true), (7, some true), (8, some true), (10, some true), (11, some true), (12, some true), (13, some true), (14, some true), (15, some true), (16, some true), (17, some true), (18, some true), (9, some false), (19, some false), (20, some true)] [] [(_, some true), (_, some true), (_, some true), (_, some true), (_, some true), (_, some true), (_, some true), (_, some true), (_, some true), (_, some true), (_, some true), (_, some true), (_, some true), (_, some true), (_, some true), (_, some true), (_, some true), (_, some true), (_, some false), (_, some false), (_, some true)] (fun w2 => RdV w2 vl Ca.enc l) (blind_then (blind_block (blind_then (blind_then (blind_block (blind_then blind_body)))))) rfl (by kernel_rfl) (by kernel_rfl) rfl rfl rfl (by kernel_rfl) St.drawn (fun _ h => hcl.keep h (by simp [dom])) ?_
            refine d_q rfl (q_move rfl rfl) rfl rfl ?_
            refine d_q rfl (q_move rfl rfl) rfl rfl ?_
            refine d_q rfl (q_sub64 rfl rfl rfl (by omega)) rfl rfl ?_
            refine d_q rfl (q_indexV j rfl Try.underlying28 Try.sizeOf47 rfl (fun _ h => h) rfl hij (by omega)) rfl rfl ?_
            refine d_q rfl (q_loadVAgg j rfl Try.isAgg47 Try.sizeOf47 rfl rfl (fun _ h => h) hy) rfl rfl ?_
            refine d_q rfl (q_move rfl rfl) rfl rfl ?_
            refine d_q rfl (q_move rfl rfl) rfl rfl ?_
            refine d_q rfl (q_indexV i rfl Try.underlying28 Try.sizeOf47 rfl (fun _ h => h) rfl rfl (by omega)) rfl rfl ?_
            refine d_q rfl (q_loadVAgg i rfl Try.isAgg47 Try.sizeOf47 rfl rfl (fun _ h => h) hx) rfl rfl ?_
            refine d_q rfl (q_move rfl rfl) rfl rfl ?_
            refine d_q rfl (q_move rfl rfl) rfl rfl ?_
            refine d_q rfl (q_sub64 rfl rfl rfl (by omega)) rfl rfl ?_
            refine d_q rfl (q_indexV j rfl Try.underlying28 Try.sizeOf47 rfl (fun _ h => h) rfl hij (by omega)) rfl rfl ?_
            refine d_q rfl (q_loadVAgg j rfl Try.isAgg47 Try.sizeOf47 rfl rfl (fun _ h => h) hy) rfl rfl ?_
            refine d_q rfl (q_move rfl rfl) rfl rfl ?_
            refine d_q rfl (q_move rfl rfl) rfl rfl ?_
            refine d_q rfl (q_indexV i rfl Try.underlying28 Try.sizeOf47 rfl (fun _ h => h) rfl rfl (by omega)) rfl rfl ?_
            refine d_q rfl (q_loadVAgg i rfl Try.isAgg47 Try.sizeOf47 rfl rfl (fun _ h => h) hx) rfl rfl ?_
            refine d_e rfl ?_
            refine e_call_00 (bef_spec y x) rfl rfl rfl Try.call21 rfl (fun _ _ => trivial) ?_
            intro _ _
            refine d_held (fun _ h => hcl.keep h (by simp [dom])) ?_
            refine d_e rfl ?_
            refine e_call_00 (rbef_spec y x) rfl rfl rfl Try.call22 rfl (fun _ _ => trivial) ?_
            intro _ _
            refine d_held (fun _ h => hcl.keep h (by simp [dom])) ?_
            refine d_q rfl (q_neb rfl Try.underlying4 rfl rfl) rfl rfl ?_
            refine d_nil ?_
            refine k_then ?_
            refine Pre.setB (t := 64) (c := false) rfl (by simp) ?_
            refine c_false rfl ?_
            refine c_skip ?_
            refine k_block ?_
            refine k_then ?_
            refine c_region _ rfl ?_
            refine l_q rfl (q_move rfl rfl) rfl rfl ?_
            refine l_q rfl (q_inc rfl rfl rfl (by omega)) rfl rfl ?_
            refine l_q rfl (q_assign rfl rfl) rfl rfl ?_
            refine l_nil ?_
            exact k_round (i + 1) (by omega) (by omega) (Sub.cons rfl (Sub.cons rfl (Sub.cons rfl (Sub.cons rfl (Sub.cons rfl (Sub.nil)))))) (fun _ h => h)
          · simp only [decide_eq_true_eq, decide_eq_false_iff_not, Bool.not_eq_true', Bool.not_eq_false'] at h3
            refine c_false rfl ?_
            refine c_exit ?_
            refine k_then_exit ?_
            refine k_then_exit ?_
            refine k_block_exit ?_
            refine k_then ?_
            refine c_seq ?_
            obtain ⟨R, hR⟩ : ∃ R, R = (if (chk ops ev).isSome = true then callsOf ops ev ev.length else []) := ⟨_, rfl⟩
            have hRl : R.length ≤ 65536 := by
              rw [hR]; split
              · exact Nat.le_trans (calls_len _ _ _) (by omega)
              · exact Nat.zero_le _
            refine c_draw [(0, some true), (1, some true), (3, some true), (4, some true), (2, some false), (5, some false), (6, some true), (7, some true), (8, some true), (9, some true), (11, some true), (12, some true), (10, some false), (13, some false), (14, some false), (15, some true), (16, some true), (17, some true), (19, some true), (18, some false), (20, some false), (21, some true), (22, some true), (23, some true), (24, some true), (26, some true), (25, some false), (27, some false), (28, some true), (29, some true), (30, some true), (31, some true), (33, some true), (32, some false), (34, some false), (35, some true), (36, some true), (37, some true), (38, some false), (39, some true), (40, some true)] [] [(_, some true), (_, some true), (_, some true), (_, some true), (_, some false), (_, some false), (_, some true), (_, some true), (_, some true), (_, some true), (_, some true), (_, some true), (_, some false), (_, some false), (_, some false), (_, some true), (_, some true), (_, some true), (_, some true), (_, some false), (_, some false), (_, some true), (_, some true), (_, some true), (_, some true), (_, some true), (_, some false), (_, some false), (_, some true), (_, some true), (_, some true), (_, some true), (_, some true), (_, some false), (_, some false), (_, some true), (_, some true), (_, some true), (_, some false), (_, some true), (_, some true)] (fun w2 => (cellsE bo 37 o.c).at w2) (blind_then blind_body) rfl (by kernel_rfl) (by kernel_rfl) rfl rfl rfl (by kernel_rfl) St.drawn (fun _ h => h.at 0 rfl) ?_
            refine d_q rfl (q_move rfl rfl) rfl rfl ?_
            refine d_q rfl (q_move rfl rfl) rfl rfl ?_
            refine d_q rfl (q_move rfl rfl) rfl rfl ?_
            refine d_q rfl (q_move rfl rfl) rfl rfl ?_
            refine d_e rfl ?_
            refine e_call_00 (chk_spec ev vs ops (by omega) (by omega) hO) rfl rfl rfl Try.call13 rfl (fun _ h => ⟨hl.keep h (by simp [dom]), ⟨hvo.keep h (by simp [dom]), hvl, fun i s o h1 h2 => (hin i s o h1 h2).keep h (by simp [dom])⟩⟩) ?_
            intro _ _
            refine d_held (fun _ h => h.at 0 rfl) ?_
            refine d_e rfl ?_
            refine e_call_00 (rchk_spec ev vs ops (by omega) (by omega) hO) rfl rfl rfl Try.call14 rfl (fun _ h => ⟨hl.keep h (by simp [dom]), ⟨hvo.keep h (by simp [dom]), hvl, fun i s o h1 h2 => (hin i s o h1 h2).keep h (by simp [dom])⟩⟩) ?_
            intro _ _
            refine d_held (fun _ h => h.at 0 rfl) ?_
            refine d_q rfl (q_eqb rfl Try.underlying4 rfl rfl) rfl rfl ?_
            refine d_q rfl (q_move rfl rfl) rfl rfl ?_
            refine Pre.setB (t := 72) (c := true) rfl (by first | rfl | (simp; done)) ?_
            refine d_q rfl (q_move rfl rfl) rfl rfl ?_
            refine d_q rfl (q_move rfl rfl) rfl rfl ?_
            refine d_q rfl (q_move rfl rfl) rfl rfl ?_
            refine d_q rfl (q_move rfl rfl) rfl rfl ?_
            refine d_e rfl ?_
            refine e_call_01 (calls_spec ev vs ops (by omega) (by omega) hO) rfl rfl rfl Try.call11 rfl (fun _ h => ⟨hl.keep h (by simp [dom]), ⟨hvo.keep h (by simp [dom]), hvl, fun i s o h1 h2 => (hin i s o h1 h2).keep h (by simp [dom])⟩⟩) ?_
            intro v1 _
            rw [← hR]
            refine d_held (fun _ h => h.at 1 rfl) ?_
            refine d_e rfl ?_
            refine e_call_01 (rcalls_spec ev vs ops (by omega) (by omega) hO) rfl rfl rfl Try.call12 rfl (fun _ h => ⟨hl.keep h (by simp [dom]), ⟨hvo.keep h (by simp [dom]), hvl, fun i s o h1 h2 => (hin i s o h1 h2).keep h (by simp [dom])⟩⟩) ?_
            intro v2 _
            rw [← hR]
            refine d_held (fun _ h => h.at 2 rfl) ?_
            refine d_e rfl ?_
            refine e_call_00 (lsame_spec R R (by omega)) rfl rfl rfl Try.call15 rfl (fun _ h => ⟨h.rd 1 rfl, h.rd 0 rfl⟩) ?_
            intro _ _
            refine d_held (fun _ h => h.at 2 rfl) ?_
            refine d_q rfl (q_pick_t rfl rfl rfl) rfl rfl ?_
            refine d_q rfl (q_move rfl rfl) rfl rfl ?_
            refine Pre.setB (t := 81) (c := true) rfl (by first | rfl | (simp; done)) ?_
            refine d_q rfl (q_move rfl rfl) rfl rfl ?_
            refine d_q rfl (q_move rfl rfl) rfl rfl ?_
            refine d_e rfl ?_
            refine e_call_00 (wid_spec l (by omega)) rfl rfl rfl Try.call16 rfl (fun _ h => hcl.keep h (by simp [dom])) ?_
            intro _ _
            refine d_held (fun _ h => h.at 2 rfl) ?_
            refine d_e rfl ?_
            refine e_call_00 (rwid_spec l (by omega)) rfl rfl rfl Try.call17 rfl (fun _ h => hcl.keep h (by simp [dom])) ?_
            intro _ _
            refine d_held (fun _ h => h.at 2 rfl) ?_
            refine d_q rfl (q_eql rfl rfl rfl) rfl rfl ?_
            refine d_q rfl (q_pick_t rfl rfl rfl) rfl rfl ?_
            refine d_q rfl (q_move rfl rfl) rfl rfl ?_
            refine Pre.setB (t := 88) (c := true) rfl (by first | rfl | (simp; done)) ?_
            refine d_q rfl (q_move rfl rfl) rfl rfl ?_
            refine d_q rfl (q_move rfl rfl) rfl rfl ?_
            refine d_e rfl ?_
            refine e_call_00 (pen_spec l (by omega)) rfl rfl rfl Try.call18 rfl (fun _ h => hcl.keep h (by simp [dom])) ?_
            intro _ _
            refine d_held (fun _ h => h.at 2 rfl) ?_
            refine d_e rfl ?_
            refine e_call_00 (rpen_spec l (by omega)) rfl rfl rfl Try.call19 rfl (fun _ h => hcl.keep h (by simp [dom])) ?_
            intro _ _
            refine d_held (fun _ h => h.at 2 rfl) ?_
            refine d_q rfl (q_eql rfl rfl rfl) rfl rfl ?_
            refine d_q rfl (q_pick_t rfl rfl rfl) rfl rfl ?_
            refine d_q rfl (q_move rfl rfl) rfl rfl ?_
            refine Pre.setB (t := 95) (c := true) rfl (by first | rfl | (simp; done)) ?_
            refine d_q rfl (q_loadCAgg (o.c) rfl Try.isAgg37 Try.sizeOf37 rfl (fun _ h => h) (rfl) (rfl)) rfl rfl ?_
            refine d_q rfl (q_loadCAgg (o.c) rfl Try.isAgg37 Try.sizeOf37 rfl (fun _ h => h) (rfl) (rfl)) rfl rfl ?_
            refine d_e rfl ?_
            refine e_call_00 (lrg_spec o) rfl rfl rfl Try.call23 rfl (fun _ _ => trivial) ?_
            intro _ _
            refine d_held (fun _ h => h.at 2 rfl) ?_
            refine d_e rfl ?_
            refine e_call_00 (rlrg_spec o) rfl rfl rfl Try.call24 rfl (fun _ _ => trivial) ?_
            intro _ _
            refine d_held (fun _ h => h.at 2 rfl) ?_
            refine d_q rfl (q_eqb rfl Try.underlying4 rfl rfl) rfl rfl ?_
            refine d_q rfl (q_pick_t rfl rfl rfl) rfl rfl ?_
            refine d_q rfl (q_move rfl rfl) rfl rfl ?_
            refine Pre.setB (t := 102) (c := true) rfl (by first | rfl | (simp; done)) ?_
            refine d_e rfl ?_
            refine e_call_00 (awake_spec) rfl rfl rfl Try.call20 rfl (fun _ _ => trivial) ?_
            intro _ _
            refine d_held (fun _ h => h.at 2 rfl) ?_
            refine d_q rfl (q_pick_t rfl rfl rfl) rfl rfl ?_
            refine d_q rfl (q_assign rfl rfl) rfl rfl ?_
            refine d_nil ?_
            refine k_then ?_
            refine c_ret ?_
            refine r_one rfl rfl ?_
            exact fun _ h => ⟨(), rfl, trivial, h.nothing⟩
def kinds_0 : List Sc := Ev.ks
def kinds_1 : List Sc := Op.ks
def kinds_2 : List Sc := Ca.ks
def kinds_3 : List Sc := Op.ks
theorem histRaw_walk (w : World) (A0 : Option Addr) (n0 c0 : Nat) (x0 : List Value) (e0 : x0.length = n0 * kinds_0.length) (rd0 : Rd w w.heap.size A0 x0) (l0 : n0 ≤ c0) (m0 : c0 ≤ maxLen) (kk0 : ∀ i, i < n0 → Kinds kinds_0 ((x0.drop (i * kinds_0.length)).take kinds_0.length)) (A1 : Option Addr) (n1 c1 : Nat) (ss1 : List (Option Addr × Nat × Nat)) (e1 : ss1.length = n1) (rd1 : Rd w w.heap.size A1 (ss1.map fun s => .slice s.1 s.2.1 s.2.2)) (l1 : n1 ≤ c1) (m1 : c1 ≤ maxLen) (kk1 : ∀ (i : Nat) (s : Option Addr × Nat × Nat), ss1[i]? = some s → s.2.1 ≤ s.2.2 ∧ s.2.2 ≤ maxLen ∧ ∃ xs : List Value, xs.length = s.2.1 * kinds_1.length ∧ Rd w w.heap.size s.1 xs ∧ ∀ j, j < s.2.1 → Kinds kinds_1 ((xs.drop (j * kinds_1.length)).take kinds_1.length)) (A2 : Option Addr) (n2 c2 : Nat) (x2 : List Value) (e2 : x2.length = n2 * kinds_2.length) (rd2 : Rd w w.heap.size A2 x2) (l2 : n2 ≤ c2) (m2 : c2 ≤ maxLen) (kk2 : ∀ i, i < n2 → Kinds kinds_2 ((x2.drop (i * kinds_2.length)).take kinds_2.length)) (x3 : Array Value) (kk3 : Kinds kinds_3 x3.toList) :
    Calls Try.prog 4 #[.slice A0 n0 c0, .slice A1 n1 c1, .slice A2 n2 c2, .agg x3] w fun e w' => e = .returned (.bool true) ∧ Below w.heap.size w w' := by
  obtain ⟨ev, rfl, rfl, _⟩ := flat_of Ev.enc (ks := kinds_0) (W := fun _ => True) rfl (fun cs h => let ⟨k, e⟩ := ev_mk h; ⟨k, e, trivial⟩) n0 x0 e0 kk0
  obtain ⟨l, rfl, rfl, _⟩ := flat_of Ca.enc (ks := kinds_2) (W := fun _ => True) rfl (fun cs h => let ⟨k, e⟩ := ca_mk h; ⟨k, e, trivial⟩) n2 x2 e2 kk2
  obtain ⟨vs, ops, hrr⟩ := raw_rows e1 l1 rd1 kk1
  obtain ⟨o, ho⟩ := op_mk kk3
  have hx3 : x3 = o.c.toArray := by rw [← ho]
  subst hx3
  exact con_walk (raw_spec ev vs ops l o) ⟨rdv_of rd0 l0, hrr, rdv_of rd2 l2⟩
end Go.Proofs.Ythfdmeikpbkpaaa
