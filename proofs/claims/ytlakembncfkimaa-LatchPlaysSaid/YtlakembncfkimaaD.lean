/- latch: the code -/
import Derived.Test.YtlakembncfkimaaC
set_option linter.unusedVariables false
set_option linter.unusedSimpArgs false
namespace Go.Proofs.Ytlakembncfkimaa
open Go.Sep Go.RowKit

/-- A latch in memory. -/
abbrev LT (b : Nat) (vR vQ : Value) (m : La) : List Ent := [cellsE b 49 [.int .i64 m.pins, vR, .int .i64 m.wr, vQ], rowE vR 3 (encI .i64) m.rd, rowE vQ 41 encW m.q]
theorem st_ne4 {w0 w : World} {D : List Nat} {a b : Nat} {T U W : TypeId} {cs us : List Value} {vR vQ : Value} {E : Enc Int} {E2 : Enc Wt} {l : List Int} {q : List Wt} {H : List Ent} {h : St w0 D (cellsE a T cs :: cellsE b U us :: rowE vR W E l :: rowE vQ 41 E2 q :: H) w} : blk vQ ≠ a ∨ q = [] := by
  by_cases hq : q = []
  · exact .inr hq
  refine .inl ?_
  have := h.hp.nodup
  obtain ⟨b', o, c, rfl⟩ := rd_open (rowE_rd (h.at 3 rfl)) (List.length_pos_iff.2 hq)
  intro e
  have h3 : (rowE (.slice (some ⟨b', o, none⟩) q.length c) 41 E2 q).at w := h.at 3 rfl
  have hc : ¬ c = 0 := by
    have := (rowE_rd h3).cap
    have hp := List.length_pos_iff.2 hq
    have h9 : q.length ≤ c := this
    omega
  have ho : ownB (.slice (some ⟨b', o, none⟩) q.length c) = some b' := by simp [ownB, hc]
  have hb : b' = a := e
  subst hb
  simp [Sep.dom, cellsE, rowE, ho] at this
set_option maxRecDepth 100000 in
set_option maxHeartbeats 1000000 in
theorem waits_spec {m : La} (hn : m.q.length ≤ 60000) (b : Nat) (vR vQ : Value) (t : Int) : Con Try.prog 36 [.pointer (some ⟨b, 0, none⟩), .int .i64 t] (fun _ => True) (LT b vR vQ m) (fun z : Int => .int .i64 z) (fun z => AtW m.q t z) (fun _ => LT b vR vQ m) := by
  intro w hE hH
  refine enter (n := 11) (vs := [.pointer (some ⟨b, 0, none⟩), .int .i64 t]) (St w (dom (LT b vR vQ m)) (LT b vR vQ (m))) Try.func36 rfl rfl rfl (St.init hH) ?_
  refine c_seq ?_
  refine c_region _ rfl ?_
  refine l_e rfl ?_
  refine e_box rfl rfl rfl rfl ?_
  intro bt
  refine l_q rfl (q_assign rfl rfl) rfl rfl ?_
  refine l_nil ?_
  refine k_then ?_
  refine c_seq ?_
  refine c_region _ rfl ?_
  refine l_q rfl (q_move rfl rfl) rfl rfl ?_
  refine l_q rfl (q_nilCheck rfl rfl) rfl rfl ?_
  refine l_q rfl (q_fieldAddr rfl Try.underlying49 rfl Try.sizeOf33 rfl rfl) rfl rfl ?_
  refine l_q rfl (q_loadC rfl Try.isAgg33 rfl (fun _ h => h.at 1 rfl) rfl) rfl rfl ?_
  refine l_q rfl (q_makeFunc (fn := .func 0) (us := #[.pointer (some ⟨bt, 0, none⟩)]) 50 rfl (vs := #[]) (fun a k => by simp) (fun a k => by simp [k.eval (x := .tmp 3) rfl])) rfl rfl ?_
  refine Pre.fact (fun _ h => st_ne4 (h := h)) ?_
  intro hne
  refine l_e rfl ?_
  refine e_call_11 (indexf_spec m.q bt hne t (by omega)) rfl rfl rfl Try.call49 rfl (fun _ h => h.rd 3 rfl) ?_
  intro z hz
  refine l_q rfl (q_assign rfl rfl) rfl rfl ?_
  refine l_nil ?_
  refine k_then ?_
  refine c_ret ?_
  refine drop0 ?_
  refine r_one rfl rfl ?_
  exact fun _ h => ⟨z, rfl, hz, h⟩
set_option maxRecDepth 100000 in
set_option maxHeartbeats 1000000 in
theorem open_spec {m : La} {n : Nat} (hm : m.Ok n) (hn : n ≤ 60000) (b : Nat) (vR vQ : Value) (wr : Bool) : Con Try.prog 39 [.pointer (some ⟨b, 0, none⟩), .bool wr] (fun _ => True) (LT b vR vQ m) (fun _ : Unit => .bool (openB m wr)) (fun _ => True) (fun _ => LT b vR vQ m) := by
  intro w hE hH
  refine enter (n := 22) (vs := [.pointer (some ⟨b, 0, none⟩), .bool wr]) (St w (dom (LT b vR vQ m)) (LT b vR vQ (m))) Try.func39 rfl rfl rfl (St.init hH) ?_
  refine c_seq ?_
  refine c_region _ rfl ?_
  refine l_q rfl (q_assign rfl rfl) rfl rfl ?_
  refine l_nil ?_
  refine k_then ?_
  refine c_seq ?_
  refine c_region _ rfl ?_
  refine l_q rfl (q_move rfl rfl) rfl rfl ?_
  refine l_q rfl (q_nilCheck rfl rfl) rfl rfl ?_
  refine l_q rfl (q_fieldAddr rfl Try.underlying49 rfl Try.sizeOf3 rfl rfl) rfl rfl ?_
  refine l_q rfl (q_loadC rfl Try.isAgg3 rfl (fun _ h => h.at 0 rfl) rfl) rfl rfl ?_
  refine l_q rfl (q_eql rfl rfl rfl) rfl rfl ?_
  refine l_q rfl (q_move rfl rfl) rfl rfl ?_
  refine Pre.caseB 10 rfl (fun h1 => ?_) (fun h1 => ?_)
  · try simp only [decide_eq_true_eq, decide_eq_false_iff_not, Bool.not_eq_true', Bool.not_eq_false'] at h1
    refine l_q rfl (q_move rfl rfl) rfl rfl ?_
    refine l_q rfl (q_not rfl rfl) rfl rfl ?_
    refine l_q rfl (q_move rfl rfl) rfl rfl ?_
    refine Pre.caseB 13 rfl (fun h2 => ?_) (fun h2 => ?_)
    · try simp only [Bool.not_eq_true', Bool.not_eq_false'] at h2
      refine l_not rfl rfl rfl ?_
      refine l_not rfl rfl rfl ?_
      refine l_not rfl rfl rfl ?_
      refine l_not rfl rfl rfl ?_
      refine l_not rfl rfl rfl ?_
      refine l_not rfl rfl rfl ?_
      refine l_q rfl (q_pick_t rfl rfl rfl) rfl rfl ?_
      refine l_q rfl (q_pick_t rfl rfl rfl) rfl rfl ?_
      refine l_q rfl (q_assign rfl rfl) rfl rfl ?_
      refine l_nil ?_
      refine k_then ?_
      refine c_ret ?_
      refine r_one rfl rfl ?_
      exact fun _ h => ⟨(), congrArg (fun z => Ending.returned (Value.bool z)) (by simp [openB, *]), trivial, h⟩
    · try simp only [Bool.not_eq_true', Bool.not_eq_false'] at h2
      refine l_q rfl (q_move rfl rfl) rfl rfl ?_
      refine l_q rfl (q_nilCheck rfl rfl) rfl rfl ?_
      refine l_q rfl (q_fieldAddr rfl Try.underlying49 rfl Try.sizeOf27 rfl rfl) rfl rfl ?_
      refine l_q rfl (q_loadC rfl Try.isAgg27 rfl (fun _ h => h.at 0 rfl) rfl) rfl rfl ?_
      refine l_q rfl (q_lenV rfl Try.underlying27 rfl (fun _ h => h.rd 1 rfl)) rfl rfl ?_
      refine l_q rfl (q_eql rfl rfl rfl) rfl rfl ?_
      refine l_q rfl (q_pick_f rfl rfl rfl) rfl rfl ?_
      refine l_q rfl (q_pick_t rfl rfl rfl) rfl rfl ?_
      refine l_q rfl (q_assign rfl rfl) rfl rfl ?_
      refine l_nil ?_
      refine k_then ?_
      refine c_ret ?_
      refine r_one rfl rfl ?_
      exact fun _ h => ⟨(), congrArg (fun z => Ending.returned (Value.bool z)) (by simp [openB, *]), trivial, h⟩
  · try simp only [decide_eq_true_eq, decide_eq_false_iff_not, Bool.not_eq_true', Bool.not_eq_false'] at h1
    refine l_not rfl rfl rfl ?_
    refine l_not rfl rfl rfl ?_
    refine l_not rfl rfl rfl ?_
    refine l_not rfl rfl rfl ?_
    refine l_not rfl rfl rfl ?_
    refine l_not rfl rfl rfl ?_
    refine l_not rfl rfl rfl ?_
    refine l_not rfl rfl rfl ?_
    refine l_not rfl rfl rfl ?_
    refine l_not rfl rfl rfl ?_
    refine l_q rfl (q_pick_f rfl rfl rfl) rfl rfl ?_
    refine l_q rfl (q_assign rfl rfl) rfl rfl ?_
    refine l_nil ?_
    refine k_then ?_
    refine c_ret ?_
    refine r_one rfl rfl ?_
    exact fun _ h => ⟨(), congrArg (fun z => Ending.returned (Value.bool z)) (by simp [openB, *]), trivial, h⟩
set_option maxRecDepth 100000 in
set_option maxHeartbeats 1000000 in
theorem may_spec {m : La} {n : Nat} (hm : m.Ok n) (hn : n ≤ 60000) (b : Nat) (vR vQ : Value) (t : Int) : Con Try.prog 33 [.pointer (some ⟨b, 0, none⟩), .int .i64 t] (fun _ => True) (LT b vR vQ m) (fun _ : Unit => .bool (mayB m t)) (fun _ => True) (fun _ => LT b vR vQ m) := by
  intro w hE hH
  obtain ⟨hlr, hlq⟩ := hm.lens
  refine enter (n := 30) (vs := [.pointer (some ⟨b, 0, none⟩), .int .i64 t]) (St w (dom (LT b vR vQ m)) (LT b vR vQ (m))) Try.func33 rfl rfl rfl (St.init hH) ?_
  refine c_seq ?_
  refine c_region _ rfl ?_
  refine l_q rfl (q_assign rfl rfl) rfl rfl ?_
  refine l_nil ?_
  refine k_then ?_
  refine c_seq ?_
  refine c_region _ rfl ?_
  refine l_q rfl (q_move rfl rfl) rfl rfl ?_
  refine l_q rfl (q_geq rfl rfl rfl) rfl rfl ?_
  refine l_q rfl (q_move rfl rfl) rfl rfl ?_
  refine Pre.caseB 7 rfl (fun h1 => ?_) (fun h1 => ?_)
  · try simp only [decide_eq_true_eq, decide_eq_false_iff_not, Bool.not_eq_true', Bool.not_eq_false'] at h1
    refine l_q rfl (q_move rfl rfl) rfl rfl ?_
    refine l_q rfl (q_nilCheck rfl rfl) rfl rfl ?_
    refine l_q rfl (q_fieldAddr rfl Try.underlying49 rfl Try.sizeOf3 rfl rfl) rfl rfl ?_
    refine l_q rfl (q_loadC rfl Try.isAgg3 rfl (fun _ h => h.at 0 rfl) rfl) rfl rfl ?_
    refine l_q rfl (q_move rfl rfl) rfl rfl ?_
    refine l_q rfl (q_neq rfl rfl rfl) rfl rfl ?_
    refine l_q rfl (q_pick_t rfl rfl rfl) rfl rfl ?_
    refine l_q rfl (q_move rfl rfl) rfl rfl ?_
    refine Pre.caseB 15 rfl (fun h2 => ?_) (fun h2 => ?_)
    · try simp only [decide_eq_true_eq, decide_eq_false_iff_not, Bool.not_eq_true', Bool.not_eq_false'] at h2
      refine l_q rfl (q_move rfl rfl) rfl rfl ?_
      refine l_q rfl (q_nilCheck rfl rfl) rfl rfl ?_
      refine l_q rfl (q_fieldAddr rfl Try.underlying49 rfl Try.sizeOf27 rfl rfl) rfl rfl ?_
      refine l_q rfl (q_loadC rfl Try.isAgg27 rfl (fun _ h => h.at 0 rfl) rfl) rfl rfl ?_
      refine l_q rfl (q_move rfl rfl) rfl rfl ?_
      refine l_e rfl ?_
      refine e_call_00 (contains_spec m.rd t (by omega)) rfl rfl rfl Try.call48 rfl (fun _ h => h.rd 1 rfl) ?_
      intro _ _
      refine l_q rfl (q_not rfl rfl) rfl rfl ?_
      refine l_q rfl (q_pick_t rfl rfl rfl) rfl rfl ?_
      refine l_q rfl (q_move rfl rfl) rfl rfl ?_
      refine Pre.caseB 24 rfl (fun h3 => ?_) (fun h3 => ?_)
      · try simp only [decide_eq_true_eq, decide_eq_false_iff_not, Bool.not_eq_true', Bool.not_eq_false'] at h3
        refine l_q rfl (q_move rfl rfl) rfl rfl ?_
        refine l_q rfl (q_move rfl rfl) rfl rfl ?_
        refine pull2 ?_
        refine pull2 ?_
        refine pull2 ?_
        refine l_e rfl ?_
        refine e_call_33 (waits_spec (m := m) (by omega) b vR vQ t) rfl rfl rfl Try.call36 rfl (fun _ _ => trivial) ?_
        intro z hz
        have hzi := hz.iff
        refine l_q rfl (q_lss rfl rfl rfl) rfl rfl ?_
        refine l_q rfl (q_pick_t rfl rfl rfl) rfl rfl ?_
        refine l_q rfl (q_assign rfl rfl) rfl rfl ?_
        refine l_nil ?_
        refine k_then ?_
        refine c_ret ?_
        refine r_one rfl rfl ?_
        exact fun _ h => ⟨(), congrArg (fun z => Ending.returned (Value.bool z)) (by first | (simp_all [mayB]; done) | (simp_all [mayB]; intros; omega)), trivial, h⟩
      · try simp only [decide_eq_true_eq, decide_eq_false_iff_not, Bool.not_eq_true', Bool.not_eq_false'] at h3
        refine l_not rfl rfl rfl ?_
        refine l_not rfl rfl rfl ?_
        refine l_not rfl rfl rfl ?_
        refine l_not rfl rfl rfl ?_
        refine l_q rfl (q_pick_f rfl rfl rfl) rfl rfl ?_
        refine l_q rfl (q_assign rfl rfl) rfl rfl ?_
        refine l_nil ?_
        refine k_then ?_
        refine c_ret ?_
        refine r_one rfl rfl ?_
        exact fun _ h => ⟨(), congrArg (fun z => Ending.returned (Value.bool z)) (by first | (simp_all [mayB]; done) | (simp_all [mayB]; intros; omega)), trivial, h⟩
    · try simp only [decide_eq_true_eq, decide_eq_false_iff_not, Bool.not_eq_true', Bool.not_eq_false'] at h2
      refine l_not rfl rfl rfl ?_
      refine l_not rfl rfl rfl ?_
      refine l_not rfl rfl rfl ?_
      refine l_not rfl rfl rfl ?_
      refine l_not rfl rfl rfl ?_
      refine l_not rfl rfl rfl ?_
      refine l_not rfl rfl rfl ?_
      refine l_q rfl (q_pick_f rfl rfl rfl) rfl rfl ?_
      refine l_q rfl (q_move rfl rfl) rfl rfl ?_
      refine l_not rfl rfl rfl ?_
      refine l_not rfl rfl rfl ?_
      refine l_not rfl rfl rfl ?_
      refine l_not rfl rfl rfl ?_
      refine l_q rfl (q_pick_f rfl rfl rfl) rfl rfl ?_
      refine l_q rfl (q_assign rfl rfl) rfl rfl ?_
      refine l_nil ?_
      refine k_then ?_
      refine c_ret ?_
      refine r_one rfl rfl ?_
      exact fun _ h => ⟨(), congrArg (fun z => Ending.returned (Value.bool z)) (by first | (simp_all [mayB]; done) | (simp_all [mayB]; intros; omega)), trivial, h⟩
  · try simp only [decide_eq_true_eq, decide_eq_false_iff_not, Bool.not_eq_true', Bool.not_eq_false'] at h1
    refine l_not rfl rfl rfl ?_
    refine l_not rfl rfl rfl ?_
    refine l_not rfl rfl rfl ?_
    refine l_not rfl rfl rfl ?_
    refine l_not rfl rfl rfl ?_
    refine l_not rfl rfl rfl ?_
    refine l_q rfl (q_pick_f rfl rfl rfl) rfl rfl ?_
    refine l_q rfl (q_move rfl rfl) rfl rfl ?_
    refine l_not rfl rfl rfl ?_
    refine l_not rfl rfl rfl ?_
    refine l_not rfl rfl rfl ?_
    refine l_not rfl rfl rfl ?_
    refine l_not rfl rfl rfl ?_
    refine l_not rfl rfl rfl ?_
    refine l_not rfl rfl rfl ?_
    refine l_q rfl (q_pick_f rfl rfl rfl) rfl rfl ?_
    refine l_q rfl (q_move rfl rfl) rfl rfl ?_
    refine l_not rfl rfl rfl ?_
    refine l_not rfl rfl rfl ?_
    refine l_not rfl rfl rfl ?_
    refine l_not rfl rfl rfl ?_
    refine l_q rfl (q_pick_f rfl rfl rfl) rfl rfl ?_
    refine l_q rfl (q_assign rfl rfl) rfl rfl ?_
    refine l_nil ?_
    refine k_then ?_
    refine c_ret ?_
    refine r_one rfl rfl ?_
    exact fun _ h => ⟨(), congrArg (fun z => Ending.returned (Value.bool z)) (by first | (simp_all [mayB]; done) | (simp_all [mayB]; intros; omega)), trivial, h⟩
set_option maxRecDepth 100000 in
set_option maxHeartbeats 1000000 in
theorem writer_spec {m : La} {n : Nat} (hm : m.Ok n) (hn : n ≤ 60000) (b : Nat) (vR vQ : Value) : Con Try.prog 15 [.pointer (some ⟨b, 0, none⟩)] (fun _ => True) (LT b vR vQ m) (fun _ : Unit => .int .i64 m.wr) (fun _ => True) (fun _ => LT b vR vQ m) := by
  intro w hE hH
  refine enter (n := 7) (vs := [.pointer (some ⟨b, 0, none⟩)]) (St w (dom (LT b vR vQ m)) (LT b vR vQ (m))) Try.func15 rfl rfl rfl (St.init hH) ?_
  refine c_seq ?_
  refine c_region _ rfl ?_
  refine l_q rfl (q_assign rfl rfl) rfl rfl ?_
  refine l_nil ?_
  refine k_then ?_
  refine c_seq ?_
  refine c_region _ rfl ?_
  refine l_q rfl (q_move rfl rfl) rfl rfl ?_
  refine l_q rfl (q_nilCheck rfl rfl) rfl rfl ?_
  refine l_q rfl (q_fieldAddr rfl Try.underlying49 rfl Try.sizeOf3 rfl rfl) rfl rfl ?_
  refine l_q rfl (q_loadC rfl Try.isAgg3 rfl (fun _ h => h.at 0 rfl) rfl) rfl rfl ?_
  refine l_q rfl (q_assign rfl rfl) rfl rfl ?_
  refine l_nil ?_
  refine k_then ?_
  refine c_ret ?_
  refine r_one rfl rfl ?_
  exact fun _ h => ⟨(), rfl, trivial, h⟩
set_option maxRecDepth 100000 in
set_option maxHeartbeats 1000000 in
theorem readers_spec {m : La} {n : Nat} (hm : m.Ok n) (hn : n ≤ 60000) (b : Nat) (vR vQ : Value) : Con Try.prog 16 [.pointer (some ⟨b, 0, none⟩)] (fun _ => True) (LT b vR vQ m) (fun v : Value => v) (fun _ => True) (fun v => rowE v 3 (encI .i64) m.rd :: LT b vR vQ m) := by
  intro w hE hH
  obtain ⟨hlr, hlq⟩ := hm.lens
  refine enter (n := 8) (vs := [.pointer (some ⟨b, 0, none⟩)]) (St w (dom (LT b vR vQ m)) (LT b vR vQ (m))) Try.func16 rfl rfl rfl (St.init hH) ?_
  refine c_seq ?_
  refine c_region _ rfl ?_
  refine l_q rfl (q_assign rfl rfl) rfl rfl ?_
  refine l_nil ?_
  refine k_then ?_
  refine c_seq ?_
  refine c_region _ rfl ?_
  refine l_q rfl (q_move rfl rfl) rfl rfl ?_
  refine l_q rfl (q_nilCheck rfl rfl) rfl rfl ?_
  refine l_q rfl (q_fieldAddr rfl Try.underlying49 rfl Try.sizeOf27 rfl rfl) rfl rfl ?_
  refine l_q rfl (q_loadC rfl Try.isAgg27 rfl (fun _ h => h.at 0 rfl) rfl) rfl rfl ?_
  refine l_e rfl ?_
  refine e_call_01 (clone_spec m.rd (by omega)) rfl rfl rfl Try.call40 rfl (fun _ h => h.rd 1 rfl) ?_
  intro v _
  refine l_q rfl (q_assign rfl rfl) rfl rfl ?_
  refine l_nil ?_
  refine k_then ?_
  refine c_ret ?_
  refine r_one rfl rfl ?_
  exact fun _ h => ⟨v, rfl, trivial, h⟩
set_option maxRecDepth 100000 in
set_option maxHeartbeats 1000000 in
theorem queue_spec {m : La} {n : Nat} (hm : m.Ok n) (hn : n ≤ 60000) (b : Nat) (vR vQ : Value) : Con Try.prog 17 [.pointer (some ⟨b, 0, none⟩)] (fun _ => True) (LT b vR vQ m) (fun v : Value => v) (fun _ => True) (fun v => rowE v 41 encW m.q :: LT b vR vQ m) := by
  intro w hE hH
  obtain ⟨hlr, hlq⟩ := hm.lens
  refine enter (n := 8) (vs := [.pointer (some ⟨b, 0, none⟩)]) (St w (dom (LT b vR vQ m)) (LT b vR vQ (m))) Try.func17 rfl rfl rfl (St.init hH) ?_
  refine c_seq ?_
  refine c_region _ rfl ?_
  refine l_q rfl (q_assign rfl rfl) rfl rfl ?_
  refine l_nil ?_
  refine k_then ?_
  refine c_seq ?_
  refine c_region _ rfl ?_
  refine l_q rfl (q_move rfl rfl) rfl rfl ?_
  refine l_q rfl (q_nilCheck rfl rfl) rfl rfl ?_
  refine l_q rfl (q_fieldAddr rfl Try.underlying49 rfl Try.sizeOf33 rfl rfl) rfl rfl ?_
  refine l_q rfl (q_loadC rfl Try.isAgg33 rfl (fun _ h => h.at 0 rfl) rfl) rfl rfl ?_
  refine l_e rfl ?_
  refine e_call_01 (clonew_spec m.q (by omega)) rfl rfl rfl Try.call41 rfl (fun _ h => h.rd 2 rfl) ?_
  intro v _
  refine l_q rfl (q_assign rfl rfl) rfl rfl ?_
  refine l_nil ?_
  refine k_then ?_
  refine c_ret ?_
  refine r_one rfl rfl ?_
  exact fun _ h => ⟨v, rfl, trivial, h⟩
set_option maxRecDepth 100000 in
set_option maxHeartbeats 1000000 in
theorem idle_spec {m : La} {n : Nat} (hm : m.Ok n) (hn : n ≤ 60000) (b : Nat) (vR vQ : Value) : Con Try.prog 14 [.pointer (some ⟨b, 0, none⟩)] (fun _ => True) (LT b vR vQ m) (fun _ : Unit => .bool (idleB m)) (fun _ => True) (fun _ => LT b vR vQ m) := by
  intro w hE hH
  refine enter (n := 20) (vs := [.pointer (some ⟨b, 0, none⟩)]) (St w (dom (LT b vR vQ m)) (LT b vR vQ (m))) Try.func14 rfl rfl rfl (St.init hH) ?_
  refine c_seq ?_
  refine c_region _ rfl ?_
  refine l_q rfl (q_assign rfl rfl) rfl rfl ?_
  refine l_nil ?_
  refine k_then ?_
  refine c_seq ?_
  refine c_region _ rfl ?_
  refine l_q rfl (q_move rfl rfl) rfl rfl ?_
  refine pull2 ?_
  refine pull2 ?_
  refine pull2 ?_
  refine l_e rfl ?_
  refine e_call_33 (open_spec hm hn b vR vQ true) rfl rfl rfl Try.call39 rfl (fun _ _ => trivial) ?_
  intro _ _
  refine l_q rfl (q_move rfl rfl) rfl rfl ?_
  refine Pre.caseB 5 rfl (fun h1 => ?_) (fun h1 => ?_)
  · try simp only [decide_eq_true_eq, decide_eq_false_iff_not, Bool.not_eq_true', Bool.not_eq_false'] at h1
    refine l_q rfl (q_move rfl rfl) rfl rfl ?_
    refine l_q rfl (q_nilCheck rfl rfl) rfl rfl ?_
    refine l_q rfl (q_fieldAddr rfl Try.underlying49 rfl Try.sizeOf33 rfl rfl) rfl rfl ?_
    refine l_q rfl (q_loadC rfl Try.isAgg33 rfl (fun _ h => h.at 0 rfl) rfl) rfl rfl ?_
    refine l_q rfl (q_lenV rfl Try.underlying33 rfl (fun _ h => h.rd 2 rfl)) rfl rfl ?_
    refine l_q rfl (q_eql rfl rfl rfl) rfl rfl ?_
    refine l_q rfl (q_pick_t rfl rfl rfl) rfl rfl ?_
    refine l_q rfl (q_move rfl rfl) rfl rfl ?_
    refine Pre.caseB 13 rfl (fun h2 => ?_) (fun h2 => ?_)
    · try simp only [decide_eq_true_eq, decide_eq_false_iff_not, Bool.not_eq_true', Bool.not_eq_false'] at h2
      refine l_q rfl (q_move rfl rfl) rfl rfl ?_
      refine l_q rfl (q_nilCheck rfl rfl) rfl rfl ?_
      refine l_q rfl (q_fieldAddr rfl Try.underlying49 rfl Try.sizeOf47 rfl rfl) rfl rfl ?_
      refine l_q rfl (q_loadC rfl Try.isAgg47 rfl (fun _ h => h.at 0 rfl) rfl) rfl rfl ?_
      refine l_q rfl (q_eql rfl rfl rfl) rfl rfl ?_
      refine l_q rfl (q_pick_t rfl rfl rfl) rfl rfl ?_
      refine l_q rfl (q_assign rfl rfl) rfl rfl ?_
      refine l_nil ?_
      refine k_then ?_
      refine c_ret ?_
      refine r_one rfl rfl ?_
      exact fun _ h => ⟨(), congrArg (fun z => Ending.returned (Value.bool z)) (by simp_all [idleB]), trivial, h⟩
    · try simp only [decide_eq_true_eq, decide_eq_false_iff_not, Bool.not_eq_true', Bool.not_eq_false'] at h2
      refine l_not rfl rfl rfl ?_
      refine l_not rfl rfl rfl ?_
      refine l_not rfl rfl rfl ?_
      refine l_not rfl rfl rfl ?_
      refine l_not rfl rfl rfl ?_
      refine l_q rfl (q_pick_f rfl rfl rfl) rfl rfl ?_
      refine l_q rfl (q_assign rfl rfl) rfl rfl ?_
      refine l_nil ?_
      refine k_then ?_
      refine c_ret ?_
      refine r_one rfl rfl ?_
      exact fun _ h => ⟨(), congrArg (fun z => Ending.returned (Value.bool z)) (by simp_all [idleB]), trivial, h⟩
  · try simp only [decide_eq_true_eq, decide_eq_false_iff_not, Bool.not_eq_true', Bool.not_eq_false'] at h1
    refine l_not rfl rfl rfl ?_
    refine l_not rfl rfl rfl ?_
    refine l_not rfl rfl rfl ?_
    refine l_not rfl rfl rfl ?_
    refine l_not rfl rfl rfl ?_
    refine l_not rfl rfl rfl ?_
    refine l_q rfl (q_pick_f rfl rfl rfl) rfl rfl ?_
    refine l_q rfl (q_move rfl rfl) rfl rfl ?_
    refine l_not rfl rfl rfl ?_
    refine l_not rfl rfl rfl ?_
    refine l_not rfl rfl rfl ?_
    refine l_not rfl rfl rfl ?_
    refine l_not rfl rfl rfl ?_
    refine l_q rfl (q_pick_f rfl rfl rfl) rfl rfl ?_
    refine l_q rfl (q_assign rfl rfl) rfl rfl ?_
    refine l_nil ?_
    refine k_then ?_
    refine c_ret ?_
    refine r_one rfl rfl ?_
    exact fun _ h => ⟨(), congrArg (fun z => Ending.returned (Value.bool z)) (by simp_all [idleB]), trivial, h⟩
set_option maxRecDepth 100000 in
set_option maxHeartbeats 1000000 in
theorem pin_spec {m : La} {n : Nat} (hm : m.Ok n) (hn : n ≤ 60000) (b : Nat) (vR vQ : Value) : Con Try.prog 27 [.pointer (some ⟨b, 0, none⟩)] (fun _ => True) (LT b vR vQ m) (fun _ : Unit => .int .i64 (m.pins + 1)) (fun _ => True) (fun _ => LT b vR vQ { m with pins := m.pins + 1 }) := by
  intro w hE hH
  have hpn := hm.pn
  refine enter (n := 11) (vs := [.pointer (some ⟨b, 0, none⟩)]) (St w (dom (LT b vR vQ m)) (LT b vR vQ (m))) Try.func27 rfl rfl rfl (St.init hH) ?_
  refine c_seq ?_
  refine c_region _ rfl ?_
  refine l_q rfl (q_assign rfl rfl) rfl rfl ?_
  refine l_nil ?_
  refine k_then ?_
  refine c_seq ?_
  refine c_region _ rfl ?_
  refine l_q rfl (q_move rfl rfl) rfl rfl ?_
  refine l_q rfl (q_nilCheck rfl rfl) rfl rfl ?_
  refine l_q rfl (q_loadC rfl Try.isAgg47 rfl (fun _ h => h.at 0 rfl) rfl) rfl rfl ?_
  refine l_q rfl (q_add64 rfl rfl rfl (by omega)) rfl rfl ?_
  refine l_q rfl (q_nilCheck rfl rfl) rfl rfl ?_
  refine l_e rfl ?_
  refine e_store rfl rfl Try.sizeOf47 rfl rfl rfl (Nat.le_of_ble_eq_true rfl) ?_
  refine l_nil ?_
  refine k_then ?_
  refine c_seq ?_
  refine c_region _ rfl ?_
  refine l_q rfl (q_move rfl rfl) rfl rfl ?_
  refine l_q rfl (q_nilCheck rfl rfl) rfl rfl ?_
  refine l_q rfl (q_loadC rfl Try.isAgg47 rfl (fun _ h => h.at 0 rfl) rfl) rfl rfl ?_
  refine l_q rfl (q_assign rfl rfl) rfl rfl ?_
  refine l_nil ?_
  refine k_then ?_
  refine c_ret ?_
  refine r_one rfl rfl ?_
  exact fun _ h => ⟨(), rfl, trivial, h⟩
set_option maxRecDepth 100000 in
set_option maxHeartbeats 1000000 in
theorem unpin_spec {m : La} {n : Nat} (hm : m.Ok n) (hn : n ≤ 60000) (b : Nat) (vR vQ : Value) : Con Try.prog 29 [.pointer (some ⟨b, 0, none⟩)] (fun _ => True) (LT b vR vQ m) (fun _ : Unit => .tuple #[.int .i64 (if m.pins = 0 then 0 else m.pins - 1), .bool (decide (m.pins ≠ 0))]) (fun _ => True) (fun _ => LT b vR vQ (unpinL m)) := by
  intro w hE hH
  have hpn := hm.pn
  refine enter (n := 16) (vs := [.pointer (some ⟨b, 0, none⟩)]) (St w (dom (LT b vR vQ m)) (LT b vR vQ (m))) Try.func29 rfl rfl rfl (St.init hH) ?_
  refine c_seq ?_
  refine c_region _ rfl ?_
  refine l_q rfl (q_assign rfl rfl) rfl rfl ?_
  refine l_q rfl (q_assign rfl rfl) rfl rfl ?_
  refine l_nil ?_
  refine k_then ?_
  refine c_seq ?_
  refine c_seq ?_
  refine c_region _ rfl ?_
  refine l_q rfl (q_move rfl rfl) rfl rfl ?_
  refine l_q rfl (q_nilCheck rfl rfl) rfl rfl ?_
  refine l_q rfl (q_loadC rfl Try.isAgg47 rfl (fun _ h => h.at 0 rfl) rfl) rfl rfl ?_
  refine l_q rfl (q_eql rfl rfl rfl) rfl rfl ?_
  refine l_nil ?_
  refine k_then ?_
  refine Pre.caseB 7 rfl (fun h => ?_) (fun h => ?_)
  · try simp only [decide_eq_true_eq, decide_eq_false_iff_not, Bool.not_eq_true', Bool.not_eq_false'] at h
    have e : unpinL m = m := by unfold unpinL; rw [if_pos h]
    refine c_true rfl ?_
    refine c_seq ?_
    refine c_region _ rfl ?_
    refine l_q rfl (q_assign rfl rfl) rfl rfl ?_
    refine l_q rfl (q_assign rfl rfl) rfl rfl ?_
    refine l_nil ?_
    refine k_then ?_
    refine c_ret ?_
    refine k_then_ret ?_
    refine r_many (rs := [.tmp 2, .tmp 3]) rfl rfl ?_
    exact fun _ h2 => ⟨(), by simp [h], trivial, by rw [e]; exact h2⟩
  · try simp only [decide_eq_true_eq, decide_eq_false_iff_not, Bool.not_eq_true', Bool.not_eq_false'] at h
    have e : unpinL m = { m with pins := m.pins - 1 } := by unfold unpinL; rw [if_neg h]
    refine c_false rfl ?_
    refine c_skip ?_
    refine k_then ?_
    refine c_seq ?_
    refine c_region _ rfl ?_
    refine l_q rfl (q_move rfl rfl) rfl rfl ?_
    refine l_q rfl (q_nilCheck rfl rfl) rfl rfl ?_
    refine l_q rfl (q_loadC rfl Try.isAgg47 rfl (fun _ h => h.at 0 rfl) rfl) rfl rfl ?_
    refine l_q rfl (q_sub64 rfl rfl rfl (by omega)) rfl rfl ?_
    refine l_q rfl (q_nilCheck rfl rfl) rfl rfl ?_
    refine l_e rfl ?_
    refine e_store rfl rfl Try.sizeOf47 rfl rfl rfl (Nat.le_of_ble_eq_true rfl) ?_
    refine l_nil ?_
    refine k_then ?_
    refine c_seq ?_
    refine c_region _ rfl ?_
    refine l_q rfl (q_move rfl rfl) rfl rfl ?_
    refine l_q rfl (q_nilCheck rfl rfl) rfl rfl ?_
    refine l_q rfl (q_loadC rfl Try.isAgg47 rfl (fun _ h => h.at 0 rfl) rfl) rfl rfl ?_
    refine l_q rfl (q_assign rfl rfl) rfl rfl ?_
    refine l_q rfl (q_assign rfl rfl) rfl rfl ?_
    refine l_nil ?_
    refine k_then ?_
    refine c_ret ?_
    refine r_many (rs := [.tmp 2, .tmp 3]) rfl rfl ?_
    exact fun _ h2 => ⟨(), by simp [h], trivial, by rw [e]; exact h2⟩
set_option maxRecDepth 100000 in
set_option maxHeartbeats 1000000 in
theorem new_spec : Con Try.prog 10 [] (fun _ => True) [] (fun b : Nat => .pointer (some ⟨b, 0, none⟩)) (fun _ => True) (fun b => LT b (.slice none 0 0) (.slice none 0 0) newL) := by
  intro w hE hH
  refine enter (n := 3) (vs := []) (St w [] []) Try.func10 rfl rfl rfl (St.init hH) ?_
  refine c_seq ?_
  refine c_region _ rfl ?_
  refine l_q rfl (q_assign rfl rfl) rfl rfl ?_
  refine l_nil ?_
  refine k_then ?_
  refine c_seq ?_
  refine c_region _ rfl ?_
  refine l_q rfl (q_build [.int .i64 0, .slice none 0 0, .int .i64 (-1), .slice none 0 0] rfl rfl (fun w => by kernel_rfl)) rfl rfl ?_
  refine l_e rfl ?_
  refine e_box rfl rfl rfl rfl ?_
  intro b
  refine l_q rfl (q_assign rfl rfl) rfl rfl ?_
  refine l_nil ?_
  refine k_then ?_
  refine c_ret ?_
  refine row0 3 (encI .i64) none ?_
  refine row0 41 encW none ?_
  refine pull1 ?_
  refine pull2 ?_
  refine r_one rfl rfl ?_
  exact fun _ h => ⟨b, rfl, trivial, h⟩
end Go.Proofs.Ytlakembncfkimaa
