/- ClockAllGo, walked -/
import Derived.Test.YthjnfbpimcdndaaWClockGoes
set_option linter.unusedVariables false
set_option linter.unusedSimpArgs false
namespace Go.Proofs.Ythjnfbpimcdndaa
open Go.Sep Go.RowKit

def setT (l : List Nat) (m : List Bool) : List Bool := l.foldl (fun m k => m.set k true) m
theorem setT_len : ∀ (l : List Nat) (m : List Bool), (setT l m).length = m.length
  | [], m => rfl
  | k :: l, m => by show (setT l (m.set k true)).length = _; rw [setT_len l]; simp
theorem setT_no : ∀ (l : List Nat) (m : List Bool) (j : Nat), j ∉ l → (setT l m).getD j false = m.getD j false
  | [], m, j, _ => rfl
  | k :: l, m, j, h => by
    show (setT l (m.set k true)).getD j false = _
    rw [setT_no l _ j (fun x => h (List.mem_cons_of_mem _ x))]
    simp only [List.getD_eq_getElem?_getD, List.getElem?_set]
    rw [if_neg (fun e : k = j => h (by rw [e]; exact List.mem_cons_self ..))]
theorem setT_snoc (l : List Nat) (m : List Bool) (k : Nat) : setT (l ++ [k]) m = (setT l m).set k true := by simp [setT, List.foldl_append]
theorem getD_set_sub {cs : List Bool} {k j : Nat} (h : (cs.set k false).getD j false = true) : j ≠ k ∧ cs.getD j false = true := by
  rw [setb_get] at h
  split at h
  · cases h
  · exact ⟨fun e => by omega, h⟩
theorem ord_mem : ∀ (m : Nat) (cs rs : List Bool) (hd : Int), ∀ k ∈ ordM m cs rs hd, cs.getD k false = true
  | 0, cs, rs, hd, k, h => by cases h
  | m + 1, cs, rs, hd, k, h => by
    cases hs : (swM cs rs hd).1 with
    | none => rw [ord_none hs] at h; cases h
    | some p =>
      rw [ord_some hs] at h
      rcases List.mem_cons.1 h with rfl | h
      · exact (sw_can hs).1
      · exact (getD_set_sub (ord_mem m _ _ _ k h)).2
theorem ord_nodup : ∀ (m : Nat) (cs rs : List Bool) (hd : Int), (ordM m cs rs hd).Nodup
  | 0, cs, rs, hd => List.nodup_nil
  | m + 1, cs, rs, hd => by
    cases hs : (swM cs rs hd).1 with
    | none => rw [ord_none hs]; exact List.nodup_nil
    | some p =>
      rw [ord_some hs]
      exact List.nodup_cons.2 ⟨fun h => (getD_set_sub (ord_mem m _ _ _ p h)).1 rfl, ord_nodup m _ _ _⟩
theorem ord_count : ∀ (m : Nat) (cs rs : List Bool) (hd : Int), 0 < cs.length → rs.length = cs.length → cs.count true < m → (ordM m cs rs hd).length = cs.count true
  | 0, cs, rs, hd, _, _, h => by omega
  | m + 1, cs, rs, hd, hn, hl, h => by
    cases hs : (swM cs rs hd).1 with
    | none =>
      rw [ord_none hs]
      have g := gs_of hn hl (sw_sw (hand := hd) hn hl)
      refine (List.count_eq_zero.2 (fun hm => ?_)).symm
      obtain ⟨i, hi, he⟩ := List.mem_iff_getElem.1 hm
      obtain ⟨p, hp, _⟩ := g.yes i hi (by simp [List.getD_eq_getElem?_getD, hi, he])
      rw [hs] at hp; cases hp
    | some p =>
      have hc := cnt_set (sw_can hs).1
      rw [ord_some hs, List.length_cons, ord_count m _ _ _ (by simpa using hn) (by rw [swM_len hn hl]; simp) (by omega)]
      omega
theorem bare_zero {cs rs : List Bool} {n : Nat} (h : ∀ j, j < n → cs.getD j false = true → rs.getD j false = true) : bareM cs rs n = 0 := by
  unfold bareM
  rw [List.length_eq_zero_iff, List.filter_eq_nil_iff]
  intro j hj
  simp only [Bool.and_eq_true, Bool.not_eq_true', not_and, Bool.not_eq_false]
  exact h j (List.mem_range.1 hj)
theorem ord_head {m : Nat} {cs rs : List Bool} {hd : Int} {k : Nat} {l : List Nat} (hn : 0 < cs.length) (hl : rs.length = cs.length) (h : ordM m cs rs hd = k :: l) : rs.getD k false = false ∨ bareM cs rs cs.length = 0 := by
  cases m with
  | zero => cases h
  | succ m =>
    cases hs : (swM cs rs hd).1 with
    | none => rw [ord_none hs] at h; cases h
    | some p =>
      rw [ord_some hs] at h
      cases h
      have g := gs_of hn hl (sw_sw (hand := hd) hn hl)
      obtain ⟨q, hq, _, h3, _⟩ := g.yes k (sw_can hs).2.1 (sw_can hs).1
      rw [hs] at hq; cases hq
      exact h3.imp id bare_zero
theorem nints_get {l : List Nat} {i : Nat} (h : i < l.length) : (nints l)[i]? = some ((l[i] : Nat) : Int) := by simp [nints, h]
theorem nints_len (l : List Nat) : (nints l).length = l.length := by simp [nints]
theorem take_cnt {l : List Bool} {i : Nat} (h : i < l.length) : (l.take (i + 1)).count true = (l.take i).count true + (if l.getD i false then 1 else 0) := by
  rw [List.take_succ_eq_append_getElem h, List.count_append]
  have e : l.getD i false = l[i] := by simp [List.getD_eq_getElem?_getD, h]
  rw [e]; cases l[i] <;> rfl
set_option maxRecDepth 100000 in
set_option maxHeartbeats 1000000 in
theorem allgo_spec {va vb : Value} (cs rs0 : List Bool) (hand : Int) (hw : (Lit.int .i64 hand).wf = true) : Con Try.prog 5 [va, vb, .int .i64 hand] (fun w => RdV w va encB cs ∧ RdV w vb encB rs0) [] (fun _ : Unit => .bool true) (fun _ => True) (fun _ => []) := by
  intro w hE hH
  obtain ⟨ha, hb⟩ := hE
  refine enter (n := 113) (vs := [va, vb, .int .i64 hand]) (St w [] []) Try.func5 rfl rfl rfl (St.init hH) ?_
  refine c_seq ?_
  refine c_region _ rfl ?_
  refine l_q rfl (q_assign rfl rfl) rfl rfl ?_
  refine l_nil ?_
  refine k_then ?_
  refine c_seq ?_
  refine c_region _ rfl ?_
  refine l_q rfl (q_move rfl rfl) rfl rfl ?_
  refine l_q rfl (q_lenV rfl Try.underlying22 rfl (fun _ h => ha.keep h (by simp [dom]))) rfl rfl ?_
  refine l_q rfl (q_assign rfl rfl) rfl rfl ?_
  refine l_nil ?_
  refine k_then ?_
  refine c_seq ?_
  refine c_seq ?_
  refine c_region _ rfl ?_
  refine l_q rfl (q_move rfl rfl) rfl rfl ?_
  refine l_q rfl (q_eql rfl rfl rfl) rfl rfl ?_
  refine l_q rfl (q_move rfl rfl) rfl rfl ?_
  refine Pre.caseB 18 rfl (fun h1 => ?_) (fun h1 => ?_)
  · simp only [decide_eq_true_eq, decide_eq_false_iff_not, Bool.not_eq_true', Bool.not_eq_false'] at h1
    refine l_not rfl rfl rfl ?_
    refine l_not rfl rfl rfl ?_
    refine l_q rfl (q_pick_t rfl rfl rfl) rfl rfl ?_
    refine l_nil ?_
    refine k_then ?_
    refine c_true rfl ?_
    refine c_seq ?_
    refine c_region _ rfl ?_
    refine l_e rfl ?_
    refine e_call_00 (awake_spec) rfl rfl rfl Try.call8 rfl (fun _ _ => trivial) ?_
    intro _ _
    refine l_q rfl (q_assign rfl rfl) rfl rfl ?_
    refine l_nil ?_
    refine k_then ?_
    refine c_ret ?_
    refine k_then_ret ?_
    refine r_one rfl rfl ?_
    exact fun _ h => ⟨(), rfl, trivial, h.nothing⟩
  · simp only [decide_eq_true_eq, decide_eq_false_iff_not, Bool.not_eq_true', Bool.not_eq_false'] at h1
    refine l_q rfl (q_move rfl rfl) rfl rfl ?_
    refine l_q rfl (q_gtr rfl rfl rfl) rfl rfl ?_
    refine l_q rfl (q_pick_f rfl rfl rfl) rfl rfl ?_
    refine l_nil ?_
    refine k_then ?_
    refine Pre.caseB 21 rfl (fun h2 => ?_) (fun h2 => ?_)
    · simp only [decide_eq_true_eq, decide_eq_false_iff_not, Bool.not_eq_true', Bool.not_eq_false'] at h2
      refine c_true rfl ?_
      refine c_seq ?_
      refine c_region _ rfl ?_
      refine l_e rfl ?_
      refine e_call_00 (awake_spec) rfl rfl rfl Try.call8 rfl (fun _ _ => trivial) ?_
      intro _ _
      refine l_q rfl (q_assign rfl rfl) rfl rfl ?_
      refine l_nil ?_
      refine k_then ?_
      refine c_ret ?_
      refine k_then_ret ?_
      refine r_one rfl rfl ?_
      exact fun _ h => ⟨(), rfl, trivial, h.nothing⟩
    · simp only [decide_eq_true_eq, decide_eq_false_iff_not, Bool.not_eq_true', Bool.not_eq_false'] at h2
      have hp : 0 < cs.length := by omega
      refine c_false rfl ?_
      refine c_skip ?_
      refine k_then ?_
      refine c_seq ?_
      refine c_region _ rfl ?_
      refine l_q rfl (q_move rfl rfl) rfl rfl ?_
      refine l_q rfl (q_move rfl rfl) rfl rfl ?_
      refine l_e rfl ?_
      refine e_call_01 (pad_spec rs0 cs.length (by omega)) rfl rfl rfl Try.call15 rfl (fun _ h => hb.keep h (by simp)) ?_
      intro v1 _
      refine l_q rfl (q_assign rfl rfl) rfl rfl ?_
      refine l_nil ?_
      refine k_then ?_
      refine c_seq ?_
      refine c_region _ rfl ?_
      refine l_q rfl (q_move rfl rfl) rfl rfl ?_
      refine l_q rfl (q_move rfl rfl) rfl rfl ?_
      refine l_q rfl (q_move rfl rfl) rfl rfl ?_
      have hrl := pad_len rs0 cs.length
      generalize padL rs0 cs.length = rs at *
      refine l_e rfl ?_
      refine e_call_01 (order_spec cs rs hand hw (by omega)) rfl rfl rfl Try.call13 rfl (fun _ h => ⟨ha.keep h (by simp), h.rd 0 rfl⟩) ?_
      intro vo _
      refine l_q rfl (q_assign rfl rfl) rfl rfl ?_
      refine l_nil ?_
      refine k_then ?_
      refine c_seq ?_
      refine c_region _ rfl ?_
      refine l_q rfl (q_move rfl rfl) rfl rfl ?_
      obtain ⟨o, ho⟩ : ∃ o, o = ordM (cs.length + 1) cs rs hand := ⟨_, rfl⟩
      rw [← ho]
      have hcl := cnt_le cs
      have hol : o.length = cs.count true := by rw [ho]; exact ord_count _ _ _ _ hp hrl (by omega)
      have hnd : o.Nodup := ho ▸ ord_nodup _ _ _ _
      have hme : ∀ k ∈ o, cs.getD k false = true := ho ▸ ord_mem _ _ _ _
      have hnl := nints_len o
      refine l_e rfl ?_
      refine e_makeSlice encB false cs.length rfl rfl rfl Try.underlying22 info4 rfl rfl rfl rfl rfl rfl rfl (by simp only [byt4]; omega) (by omega) ?_
      intro vm
      refine l_q rfl (q_assign rfl rfl) rfl rfl ?_
      refine l_nil ?_
      refine k_then ?_
      refine c_seq ?_
      refine c_seq ?_
      refine c_region _ rfl ?_
      refine l_q rfl (q_assign rfl rfl) rfl rfl ?_
      refine l_nil ?_
      refine k_then ?_
      refine c_block ?_
      refine pull1 ?_
      refine pull2 ?_
      refine c_loop1 (fun (i : Nat) => [(0, va), (7, .int .i64 (cs.length : Int)), (8, v1), (9, vo), (10, vm), (11, .int .i64 (i : Int))]) (fun (i : Nat) => St w [] [rowE v1 4 encB rs, rowE vo 3 (encI .i64) (nints o), rowE vm 4 encB (setT (o.take i) (List.replicate cs.length false))]) (fun (i : Nat) => i ≤ o.length) (fun (i : Nat) => o.length - i) (0) (Nat.zero_le _) (Sub.cons rfl (Sub.cons rfl (Sub.cons rfl (Sub.cons rfl (Sub.cons rfl (Sub.cons rfl (Sub.nil))))))) (fun _ h => h) ?_
      intro i hi
      refine c_seq ?_
      refine c_seq ?_
      have hml : (setT (o.take i) (List.replicate cs.length false)).length = cs.length := by rw [setT_len]; simp
      refine c_region _ rfl ?_
      refine l_q rfl (q_move rfl rfl) rfl rfl ?_
      refine l_q rfl (q_move rfl rfl) rfl rfl ?_
      refine l_q rfl (q_lenV rfl Try.underlying28 rfl (fun _ h => h.rd 1 rfl)) rfl rfl ?_
      refine l_q rfl (q_lss rfl rfl rfl) rfl rfl ?_
      refine l_nil ?_
      refine k_then ?_
      refine Pre.caseB 35 rfl (fun hio => ?_) (fun hio => ?_)
      · simp only [decide_eq_true_eq, decide_eq_false_iff_not, Bool.not_eq_true', Bool.not_eq_false'] at hio
        rw [hnl] at hio
        have hio2 : i < o.length := by omega
        obtain ⟨k, hko⟩ : ∃ k, k = o[i] := ⟨_, rfl⟩
        have hk : (nints o)[i]? = some ((k : Nat) : Int) := by rw [hko]; exact nints_get hio2
        have hkm : k ∈ o := by rw [hko]; exact List.getElem_mem hio2
        have hkc : k < cs.length := by
          rcases Nat.lt_or_ge k cs.length with h | h
          · exact h
          · have := hme k hkm; rw [List.getD_eq_getElem?_getD, List.getElem?_eq_none h] at this; cases this
        have hts : o.take (i + 1) = o.take i ++ [k] := by rw [List.take_succ_eq_append_getElem hio2, hko]
        have hkn : k ∉ o.take i := by
          have h2 : (o.take (i + 1)).Nodup := hnd.sublist (List.take_sublist ..)
          rw [hts] at h2
          exact fun hm => (List.nodup_append.1 h2).2.2 k hm k (List.mem_singleton.2 rfl) rfl
        have hst : (setT (o.take i) (List.replicate cs.length false)).getD k false = false := by rw [setT_no _ _ _ hkn]; simp [List.getD_eq_getElem?_getD, List.getElem?_replicate, hkc]
        refine c_true rfl ?_
        refine c_skip ?_
        refine k_then ?_
        refine c_seq ?_
        refine c_block ?_
        refine c_seq ?_
        refine c_seq ?_
        refine c_region _ rfl ?_
        refine l_q rfl (q_move rfl rfl) rfl rfl ?_
        refine l_q rfl (q_move rfl rfl) rfl rfl ?_
        refine l_q rfl (q_indexV i rfl Try.underlying28 Try.sizeOf3 rfl (fun _ h => h.rd 1 rfl) rfl rfl (by omega)) rfl rfl ?_
        refine l_q rfl (q_loadV i 0 rfl Try.isAgg3 rfl rfl (fun _ h => h.rd 1 rfl) hk rfl) rfl rfl ?_
        refine l_q rfl (q_lss rfl rfl rfl) rfl rfl ?_
        refine l_q rfl (q_move rfl rfl) rfl rfl ?_
        refine Pre.setB (t := 43) (c := false) rfl (decide_eq_false (by omega)) ?_
        refine l_q rfl (q_move rfl rfl) rfl rfl ?_
        refine l_q rfl (q_move rfl rfl) rfl rfl ?_
        refine l_q rfl (q_indexV i rfl Try.underlying28 Try.sizeOf3 rfl (fun _ h => h.rd 1 rfl) rfl rfl (by omega)) rfl rfl ?_
        refine l_q rfl (q_loadV i 0 rfl Try.isAgg3 rfl rfl (fun _ h => h.rd 1 rfl) hk rfl) rfl rfl ?_
        refine l_q rfl (q_move rfl rfl) rfl rfl ?_
        refine l_q rfl (q_geq rfl rfl rfl) rfl rfl ?_
        refine l_q rfl (q_pick_f rfl rfl rfl) rfl rfl ?_
        refine l_q rfl (q_move rfl rfl) rfl rfl ?_
        refine Pre.setB (t := 51) (c := false) rfl (decide_eq_false (by omega)) ?_
        refine l_q rfl (q_move rfl rfl) rfl rfl ?_
        refine l_q rfl (q_move rfl rfl) rfl rfl ?_
        refine l_q rfl (q_move rfl rfl) rfl rfl ?_
        refine l_q rfl (q_indexV i rfl Try.underlying28 Try.sizeOf3 rfl (fun _ h => h.rd 1 rfl) rfl rfl (by omega)) rfl rfl ?_
        refine l_q rfl (q_loadV i 0 rfl Try.isAgg3 rfl rfl (fun _ h => h.rd 1 rfl) hk rfl) rfl rfl ?_
        refine l_q rfl (q_indexV k rfl Try.underlying22 Try.sizeOf4 rfl (fun _ h => h.rd 2 rfl) rfl rfl (by omega)) rfl rfl ?_
        refine l_q rfl (q_loadV k 0 rfl Try.isAgg4 rfl rfl (fun _ h => h.rd 2 rfl) (gb (by rw [setT_len]; simp; omega)) rfl) rfl rfl ?_
        refine l_q rfl (q_pick_f rfl rfl rfl) rfl rfl ?_
        refine l_q rfl (q_move rfl rfl) rfl rfl ?_
        refine Pre.setB (t := 60) (c := false) rfl (hst) ?_
        refine l_q rfl (q_move rfl rfl) rfl rfl ?_
        refine l_q rfl (q_move rfl rfl) rfl rfl ?_
        refine l_q rfl (q_move rfl rfl) rfl rfl ?_
        refine l_q rfl (q_indexV i rfl Try.underlying28 Try.sizeOf3 rfl (fun _ h => h.rd 1 rfl) rfl rfl (by omega)) rfl rfl ?_
        refine l_q rfl (q_loadV i 0 rfl Try.isAgg3 rfl rfl (fun _ h => h.rd 1 rfl) hk rfl) rfl rfl ?_
        refine l_q rfl (q_indexV k rfl Try.underlying22 Try.sizeOf4 rfl (fun _ h => ha.keep h (by simp [dom])) rfl rfl (by omega)) rfl rfl ?_
        refine l_q rfl (q_loadV k 0 rfl Try.isAgg4 rfl rfl (fun _ h => ha.keep h (by simp [dom])) (gb hkc) rfl) rfl rfl ?_
        refine l_q rfl (q_not rfl rfl) rfl rfl ?_
        refine l_q rfl (q_pick_f rfl rfl rfl) rfl rfl ?_
        refine l_nil ?_
        refine k_then ?_
        refine Pre.setB (t := 69) (c := false) rfl (by rw [hme k hkm]; rfl) ?_
        refine c_false rfl ?_
        refine c_skip ?_
        refine k_then ?_
        refine c_region _ rfl ?_
        refine l_q rfl (q_move rfl rfl) rfl rfl ?_
        refine l_q rfl (q_move rfl rfl) rfl rfl ?_
        refine l_q rfl (q_move rfl rfl) rfl rfl ?_
        refine l_q rfl (q_indexV i rfl Try.underlying28 Try.sizeOf3 rfl (fun _ h => h.rd 1 rfl) rfl rfl (by omega)) rfl rfl ?_
        refine l_q rfl (q_loadV i 0 rfl Try.isAgg3 rfl rfl (fun _ h => h.rd 1 rfl) hk rfl) rfl rfl ?_
        refine l_q rfl (q_indexV k rfl Try.underlying22 Try.sizeOf4 rfl (fun _ h => h.rd 2 rfl) rfl rfl (by omega)) rfl rfl ?_
        refine pull2 ?_
        refine l_e rfl ?_
        refine e_storeV k 0 (true) rfl rfl Try.sizeOf4 rfl rfl rfl (gb (by omega)) (by decide) rfl ?_
        refine l_nil ?_
        refine k_block ?_
        refine k_then ?_
        refine c_region _ rfl ?_
        refine l_q rfl (q_move rfl rfl) rfl rfl ?_
        refine l_q rfl (q_inc rfl rfl rfl (by omega)) rfl rfl ?_
        refine l_q rfl (q_assign rfl rfl) rfl rfl ?_
        refine l_nil ?_
        refine row_eq (show _ = setT (o.take (i + 1)) (List.replicate cs.length false) from by rw [hts, setT_snoc]) ?_
        refine pull2 ?_
        refine pull2 ?_
        exact k_round (i + 1) (by omega) (by omega) (Sub.cons rfl (Sub.cons rfl (Sub.cons rfl (Sub.cons rfl (Sub.cons rfl (Sub.cons rfl (Sub.nil))))))) (fun _ h => h)
      · simp only [decide_eq_true_eq, decide_eq_false_iff_not, Bool.not_eq_true', Bool.not_eq_false'] at hio
        refine c_false rfl ?_
        refine c_exit ?_
        refine k_then_exit ?_
        refine k_then_exit ?_
        refine k_block_exit ?_
        refine k_then ?_
        refine c_seq ?_
        refine c_region _ rfl ?_
        refine l_q rfl (q_assign rfl rfl) rfl rfl ?_
        refine l_nil ?_
        refine k_then ?_
        refine c_seq ?_
        refine c_seq ?_
        refine c_region _ rfl ?_
        refine l_q rfl (q_assign rfl rfl) rfl rfl ?_
        refine l_nil ?_
        refine k_then ?_
        refine c_block ?_
        refine pull2 ?_
        refine drop0 ?_
        refine pull1 ?_
        refine pull1 ?_
        refine c_loop1 (fun (i2 : Nat) => [(0, va), (7, .int .i64 (cs.length : Int)), (8, v1), (9, vo), (12, .int .i64 ((cs.take i2).count true : Int)), (13, .int .i64 (i2 : Int))]) (fun (i2 : Nat) => St w [] [rowE v1 4 encB rs, rowE vo 3 (encI .i64) (nints o)]) (fun (i2 : Nat) => i2 ≤ cs.length) (fun (i2 : Nat) => cs.length - i2) (0) (Nat.zero_le _) (Sub.cons rfl (Sub.cons rfl (Sub.cons rfl (Sub.cons rfl (Sub.consE rfl (by simp) (Sub.cons rfl Sub.nil)))))) (fun _ h => h) ?_
        intro i2 hi2
        refine c_seq ?_
        refine c_seq ?_
        have hc2 : (cs.take i2).count true ≤ i2 := Nat.le_trans List.count_le_length (by simp; omega)
        refine c_region _ rfl ?_
        refine l_q rfl (q_move rfl rfl) rfl rfl ?_
        refine l_q rfl (q_move rfl rfl) rfl rfl ?_
        refine l_q rfl (q_lss rfl rfl rfl) rfl rfl ?_
        refine l_nil ?_
        refine k_then ?_
        refine Pre.caseB 78 rfl (fun hil => ?_) (fun hil => ?_)
        · simp only [decide_eq_true_eq, decide_eq_false_iff_not, Bool.not_eq_true', Bool.not_eq_false'] at hil
          have hil2 : i2 < cs.length := by omega
          have htc := take_cnt hil2
          refine c_true rfl ?_
          refine c_skip ?_
          refine k_then ?_
          refine c_seq ?_
          refine c_block ?_
          refine c_seq ?_
          refine c_region _ rfl ?_
          refine l_q rfl (q_move rfl rfl) rfl rfl ?_
          refine l_q rfl (q_move rfl rfl) rfl rfl ?_
          refine l_q rfl (q_indexV i2 rfl Try.underlying22 Try.sizeOf4 rfl (fun _ h => ha.keep h (by simp [dom])) rfl rfl (by omega)) rfl rfl ?_
          refine l_q rfl (q_loadV i2 0 rfl Try.isAgg4 rfl rfl (fun _ h => ha.keep h (by simp [dom])) (gb (by omega)) rfl) rfl rfl ?_
          refine l_nil ?_
          refine k_then ?_
          refine Pre.caseB 84 rfl (fun hcc => ?_) (fun hcc => ?_)
          · rw [hcc] at htc
            simp only [if_true, Bool.false_eq_true, if_false] at htc
            refine c_true rfl ?_
            refine c_region _ rfl ?_
            refine l_q rfl (q_move rfl rfl) rfl rfl ?_
            refine l_q rfl (q_inc rfl rfl rfl (by omega)) rfl rfl ?_
            refine l_q rfl (q_assign rfl rfl) rfl rfl ?_
            refine l_nil ?_
            refine k_block ?_
            refine k_then ?_
            refine c_region _ rfl ?_
            refine l_q rfl (q_move rfl rfl) rfl rfl ?_
            refine l_q rfl (q_inc rfl rfl rfl (by omega)) rfl rfl ?_
            refine l_q rfl (q_assign rfl rfl) rfl rfl ?_
            refine l_nil ?_
            exact k_round (i2 + 1) (by omega) (by omega) (Sub.cons rfl (Sub.cons rfl (Sub.cons rfl (Sub.cons rfl (Sub.consE rfl (by simp [htc]) (Sub.cons rfl Sub.nil)))))) (fun _ h => h)
          · rw [hcc] at htc
            simp only [if_true, Bool.false_eq_true, if_false] at htc
            refine c_false rfl ?_
            refine c_skip ?_
            refine k_block ?_
            refine k_then ?_
            refine c_region _ rfl ?_
            refine l_q rfl (q_move rfl rfl) rfl rfl ?_
            refine l_q rfl (q_inc rfl rfl rfl (by omega)) rfl rfl ?_
            refine l_q rfl (q_assign rfl rfl) rfl rfl ?_
            refine l_nil ?_
            exact k_round (i2 + 1) (by omega) (by omega) (Sub.cons rfl (Sub.cons rfl (Sub.cons rfl (Sub.cons rfl (Sub.consE rfl (by simp [htc]) (Sub.cons rfl Sub.nil)))))) (fun _ h => h)
        · simp only [decide_eq_true_eq, decide_eq_false_iff_not, Bool.not_eq_true', Bool.not_eq_false'] at hil
          have hie : i2 = cs.length := by omega
          subst hie
          rw [List.take_length] at *
          refine Pre.setV (t := 12) (c := .int .i64 (cs.count true : Int)) rfl (rfl) ?_
          refine c_false rfl ?_
          refine c_exit ?_
          refine k_then_exit ?_
          refine k_then_exit ?_
          refine k_block_exit ?_
          refine k_then ?_
          refine c_seq ?_
          refine c_region _ rfl ?_
          refine l_q rfl (q_move rfl rfl) rfl rfl ?_
          refine l_q rfl (q_lenV rfl Try.underlying28 rfl (fun _ h => h.rd 1 rfl)) rfl rfl ?_
          refine l_q rfl (q_move rfl rfl) rfl rfl ?_
          refine l_q rfl (q_eql rfl rfl rfl) rfl rfl ?_
          refine l_q rfl (q_move rfl rfl) rfl rfl ?_
          refine Pre.setB (t := 91) (c := true) rfl (by rw [hnl, hol]; exact decide_eq_true rfl) ?_
          refine l_q rfl (q_move rfl rfl) rfl rfl ?_
          refine l_q rfl (q_eql rfl rfl rfl) rfl rfl ?_
          refine l_q rfl (q_move rfl rfl) rfl rfl ?_
          refine Pre.caseB 94 rfl (fun hz => ?_) (fun hz => ?_)
          · simp only [decide_eq_true_eq, decide_eq_false_iff_not, Bool.not_eq_true', Bool.not_eq_false'] at hz
            refine l_not rfl rfl rfl ?_
            refine l_not rfl rfl rfl ?_
            refine l_not rfl rfl rfl ?_
            refine l_not rfl rfl rfl ?_
            refine l_not rfl rfl rfl ?_
            refine l_not rfl rfl rfl ?_
            refine l_not rfl rfl rfl ?_
            refine l_q rfl (q_pick_t rfl rfl rfl) rfl rfl ?_
            refine l_q rfl (q_move rfl rfl) rfl rfl ?_
            refine l_not rfl rfl rfl ?_
            refine l_not rfl rfl rfl ?_
            refine l_not rfl rfl rfl ?_
            refine l_not rfl rfl rfl ?_
            refine l_q rfl (q_pick_t rfl rfl rfl) rfl rfl ?_
            refine l_q rfl (q_pick_t rfl rfl rfl) rfl rfl ?_
            refine l_q rfl (q_move rfl rfl) rfl rfl ?_
            refine l_e rfl ?_
            refine e_call_00 (awake_spec) rfl rfl rfl Try.call8 rfl (fun _ _ => trivial) ?_
            intro _ _
            refine l_q rfl (q_pick_t rfl rfl rfl) rfl rfl ?_
            refine l_q rfl (q_assign rfl rfl) rfl rfl ?_
            refine l_nil ?_
            refine k_then ?_
            refine c_ret ?_
            refine r_one rfl rfl ?_
            exact fun _ h => ⟨(), rfl, trivial, h.nothing⟩
          · simp only [decide_eq_true_eq, decide_eq_false_iff_not, Bool.not_eq_true', Bool.not_eq_false'] at hz
            obtain ⟨k, o2, hk2⟩ : ∃ k o2, o = k :: o2 := by
              cases o with
              | nil => simp at hol; omega
              | cons k o2 => exact ⟨k, o2, rfl⟩
            have hk : (nints o)[0]? = some ((k : Nat) : Int) := by rw [hk2]; rfl
            have hkc : k < cs.length := by
              have hkm := hme k (hk2 ▸ List.mem_cons_self ..)
              rcases Nat.lt_or_ge k cs.length with h | h
              · exact h
              · rw [List.getD_eq_getElem?_getD, List.getElem?_eq_none h] at hkm; cases hkm
            have hhd := ord_head hp hrl (ho.symm.trans hk2)
            have hpos : 0 < (nints o).length := by rw [hnl, hk2]; simp
            refine l_q rfl (q_move rfl rfl) rfl rfl ?_
            refine l_q rfl (q_move rfl rfl) rfl rfl ?_
            refine l_q rfl (q_indexV 0 rfl Try.underlying28 Try.sizeOf3 rfl (fun _ h => h.rd 1 rfl) rfl rfl (by omega)) rfl rfl ?_
            refine l_q rfl (q_loadV 0 0 rfl Try.isAgg3 rfl rfl (fun _ h => h.rd 1 rfl) hk rfl) rfl rfl ?_
            refine l_q rfl (q_indexV k rfl Try.underlying22 Try.sizeOf4 rfl (fun _ h => h.rd 0 rfl) rfl rfl (by omega)) rfl rfl ?_
            refine l_q rfl (q_loadV k 0 rfl Try.isAgg4 rfl rfl (fun _ h => h.rd 0 rfl) (gb (by omega)) rfl) rfl rfl ?_
            refine l_q rfl (q_not rfl rfl) rfl rfl ?_
            refine l_q rfl (q_pick_f rfl rfl rfl) rfl rfl ?_
            refine l_q rfl (q_move rfl rfl) rfl rfl ?_
            refine Pre.caseB 103 rfl (fun hrk => ?_) (fun hrk => ?_)
            · simp only [Bool.not_eq_true', Bool.not_eq_false'] at hrk
              refine l_not rfl rfl rfl ?_
              refine l_not rfl rfl rfl ?_
              refine l_not rfl rfl rfl ?_
              refine l_not rfl rfl rfl ?_
              refine l_q rfl (q_pick_t rfl rfl rfl) rfl rfl ?_
              refine l_q rfl (q_pick_t rfl rfl rfl) rfl rfl ?_
              refine l_q rfl (q_move rfl rfl) rfl rfl ?_
              refine l_e rfl ?_
              refine e_call_00 (awake_spec) rfl rfl rfl Try.call8 rfl (fun _ _ => trivial) ?_
              intro _ _
              refine l_q rfl (q_pick_t rfl rfl rfl) rfl rfl ?_
              refine l_q rfl (q_assign rfl rfl) rfl rfl ?_
              refine l_nil ?_
              refine k_then ?_
              refine c_ret ?_
              refine r_one rfl rfl ?_
              exact fun _ h => ⟨(), rfl, trivial, h.nothing⟩
            · simp only [Bool.not_eq_true', Bool.not_eq_false'] at hrk
              have hbz : bareM cs rs cs.length = 0 := hhd.resolve_left (by rw [hrk]; simp)
              refine l_q rfl (q_move rfl rfl) rfl rfl ?_
              refine l_q rfl (q_move rfl rfl) rfl rfl ?_
              refine l_e rfl ?_
              refine e_call_00 (bares_spec cs rs (by omega) (by omega)) rfl rfl rfl Try.call16 rfl (fun _ h => ⟨ha.keep h (by simp), h.rd 0 rfl⟩) ?_
              intro _ _
              refine l_q rfl (q_eql rfl rfl rfl) rfl rfl ?_
              refine l_q rfl (q_pick_f rfl rfl rfl) rfl rfl ?_
              refine l_q rfl (q_pick_t rfl rfl rfl) rfl rfl ?_
              refine l_q rfl (q_move rfl rfl) rfl rfl ?_
              refine Pre.setB (t := 110) (c := true) rfl (by rw [hbz]; rfl) ?_
              refine l_e rfl ?_
              refine e_call_00 (awake_spec) rfl rfl rfl Try.call8 rfl (fun _ _ => trivial) ?_
              intro _ _
              refine l_q rfl (q_pick_t rfl rfl rfl) rfl rfl ?_
              refine l_q rfl (q_assign rfl rfl) rfl rfl ?_
              refine l_nil ?_
              refine k_then ?_
              refine c_ret ?_
              refine r_one rfl rfl ?_
              exact fun _ h => ⟨(), rfl, trivial, h.nothing⟩
theorem clockAllGo_walk (w : World) (A0 : Option Addr) (c0 : Nat) (z0 : List Bool) (rd0 : Rd w w.heap.size A0 (z0.map .bool)) (l0 : z0.length ≤ c0) (m0 : c0 ≤ maxLen) (A1 : Option Addr) (c1 : Nat) (z1 : List Bool) (rd1 : Rd w w.heap.size A1 (z1.map .bool)) (l1 : z1.length ≤ c1) (m1 : c1 ≤ maxLen) (a2 : Int) (w2 : (Lit.int .i64 a2).wf = true) :
    Calls Try.prog 5 #[.slice A0 z0.length c0, .slice A1 z1.length c1, .int .i64 a2] w fun e w' => e = .returned (.bool true) ∧ Below w.heap.size w w' := by
  have f0 := flat_one' encB Value.bool (fun _ => rfl) z0
  rw [← f0] at rd0
  have f1 := flat_one' encB Value.bool (fun _ => rfl) z1
  rw [← f1] at rd1
  exact con_walk (allgo_spec z0 z1 a2 w2) ⟨rdv_of rd0 l0, rdv_of rd1 l1⟩
end Go.Proofs.Ythjnfbpimcdndaa
