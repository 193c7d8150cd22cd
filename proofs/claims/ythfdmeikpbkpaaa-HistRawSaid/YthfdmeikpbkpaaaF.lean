/- histories: the code Check -/
import Derived.Test.YthfdmeikpbkpaaaE
set_option linter.unusedVariables false
set_option linter.unusedSimpArgs false
namespace Go.Proofs.Ythfdmeikpbkpaaa
open Go.Sep Go.RowKit

def Inv (ops : List (List Op)) (st : List (Nat × Bool)) : Prop := ∀ (c k : Nat) (l : List Op) (o : Op), st[c]? = some (k, true) → ops[c]? = some l → l[k]? = some o → kndB o = true
theorem stp_inv {ops : List (List Op)} {st st' : List (Nat × Bool)} {e : Ev} (h : Inv ops st) (hs : stp ops st e = some st') : Inv ops st' := by
  unfold stp at hs
  split at hs
  · split at hs
    · rename_i hok
      cases hs
      intro c k l o h1 h2 h3
      rw [List.getElem?_set] at h1
      split at h1
      · rename_i hc
        split at h1
        · have h4 := Option.some.inj h1
          unfold nxt at h4
          split at h4
          · cases h4
          · rename_i hd
            have h5 : (st.getD e.client.toNat (0, false)).1 = k := congrArg Prod.fst h4
            unfold okB at hok
            simp only [Bool.and_eq_true] at hok
            have h6 := hok.2
            rw [h5, List.getD_eq_getElem?_getD, hc, h2] at h6
            simp only [Option.getD_some, h3, Bool.and_eq_true] at h6
            exact h6.1
        · cases h1
      · exact h c k l o h1 h2 h3
    · cases hs
  · cases hs
theorem stp_bd {ops : List (List Op)} {st st' : List (Nat × Bool)} {e : Ev} {n : Nat} (h : ∀ p ∈ st, p.1 ≤ n) (hs : stp ops st e = some st') : ∀ p ∈ st', p.1 ≤ n + 1 := by
  unfold stp at hs
  split at hs
  · split at hs
    · cases hs
      intro p hp
      rcases List.mem_or_eq_of_mem_set hp with hp | rfl
      · exact Nat.le_succ_of_le (h p hp)
      · have hg : (st.getD e.client.toNat (0, false)).1 ≤ n := by
          rw [List.getD_eq_getElem?_getD]
          cases hq : st[e.client.toNat]? with
          | none => exact Nat.zero_le _
          | some q => exact h q (List.mem_of_getElem? hq)
        unfold nxt
        split
        · show _ + 1 ≤ n + 1; omega
        · show _ ≤ n + 1; exact Nat.le_succ_of_le hg
    · cases hs
  · cases hs
theorem fold_inv {ops : List (List Op)} : ∀ (l : List Ev) (s0 st : List (Nat × Bool)) (n : Nat), Inv ops s0 → (∀ p ∈ s0, p.1 ≤ n) → l.foldl (fun s e => s.bind (fun st => stp ops st e)) (some s0) = some st → Inv ops st ∧ ∀ p ∈ st, p.1 ≤ n + l.length
  | [], s0, st, n, h1, h2, h => by cases h; exact ⟨h1, h2⟩
  | e :: l, s0, st, n, h1, h2, h => by
    rw [List.foldl_cons] at h
    cases hs : stp ops s0 e with
    | none =>
      rw [show (some s0).bind (fun st => stp ops st e) = none from hs, chk_dead] at h; cases h
    | some s1 =>
      rw [show (some s0).bind (fun st => stp ops st e) = some s1 from hs] at h
      obtain ⟨g1, g2⟩ := fold_inv l s1 st (n + 1) (stp_inv h1 hs) (stp_bd h2 hs) h
      exact ⟨g1, fun p hp => by have := g2 p hp; rw [List.length_cons]; omega⟩
theorem chk_inv {ops : List (List Op)} {l : List Ev} {st : List (Nat × Bool)} (h : chk ops l = some st) : Inv ops st ∧ ∀ p ∈ st, p.1 ≤ l.length := by
  have := fold_inv l _ st 0 (fun c k lo o h1 _ _ => by
    have := List.mem_of_getElem? h1; rw [List.mem_replicate] at this; cases this.2) (fun p hp => by rw [List.mem_replicate] at hp; rw [hp.2]; exact Nat.le_refl _) h
  rw [Nat.zero_add] at this; exact this
theorem q_neZ {n : Nat} {L : Env} {X : World → Prop} {o : Oper} {u : TypeId} {x y : Operand} (k b i d : Int) (w1 : (Lit.int .i64 k).wf = true) (w2 : (Lit.int .i64 b).wf = true) (w3 : (Lit.int .i64 i).wf = true) (w4 : (Lit.int .i64 d).wf = true) (ho : o.op = .binOp .neq 57 x y u)
    (hx : ev L x = some (.agg [Value.int .i64 k, .int .i64 b].toArray)) (hy : ev L y = some (.agg [Value.int .i64 i, .int .i64 d].toArray)) : QOp Try.prog n L X o (.bool (!decide (k = i ∧ b = d))) :=
  q_neAgg (d := 2) (ks := [.i .i64, .i .i64]) _ (by kernel_rfl) (by kernel_rfl) (by decide) (by kernel_rfl) (by kernel_rfl) (by kernel_rfl) ho hx hy
    ⟨rfl, fun j k' v h1 h2 => by
      match j with
      | 0 => cases h1; cases h2; exact ⟨_, rfl, w1⟩
      | 1 => cases h1; cases h2; exact ⟨_, rfl, w2⟩
      | j + 2 => simp at h1⟩
    ⟨rfl, fun j k' v h1 h2 => by
      match j with
      | 0 => cases h1; cases h2; exact ⟨_, rfl, w3⟩
      | 1 => cases h1; cases h2; exact ⟨_, rfl, w4⟩
      | j + 2 => simp at h1⟩ (by simp)
set_option maxRecDepth 100000 in
set_option maxHeartbeats 1000000 in
theorem chk_spec {va vo : Value} (l : List Ev) (vs : List Sv) (ops : List (List Op)) (hn : l.length ≤ 65536) (hm : ops.length ≤ 65536) (hO : ∀ o ∈ ops, o.length ≤ 65536) : Con Try.prog 13 [va, vo] (fun w => RdV w va Ev.enc l ∧ RR w vo vs ops) [] (fun _ : Unit => .bool (chk ops l).isSome) (fun _ => True) (fun _ => []) := by
  intro w hE hH
  obtain ⟨hl, hvo, hvl, hin⟩ := hE
  refine enter (n := 98) (vs := [va, vo]) (St w [] []) Try.func13 rfl rfl rfl (St.init hH) ?_
  refine c_seq ?_
  refine c_region _ rfl ?_
  refine l_q rfl (q_assign rfl rfl) rfl rfl ?_
  refine l_nil ?_
  refine k_then ?_
  refine c_seq ?_
  refine c_region _ rfl ?_
  refine l_q rfl (q_move rfl rfl) rfl rfl ?_
  refine l_q rfl (q_lenV rfl Try.underlying23 rfl (fun _ h => hvo.keep h (by simp [dom]))) rfl rfl ?_
  refine l_e rfl ?_
  refine e_makeSlice encZ ((0, false) : Nat × Bool) vs.length rfl rfl rfl Try.underlying58 info57 rfl rfl rfl rfl rfl rfl rfl (by simp only [byt57]; omega) (by omega) ?_
  intro vl
  refine l_q rfl (q_assign rfl rfl) rfl rfl ?_
  refine l_nil ?_
  refine k_then ?_
  refine c_seq ?_
  refine c_seq ?_
  refine c_region _ rfl ?_
  refine l_q rfl (q_move rfl rfl) rfl rfl ?_
  refine l_q rfl (q_lenV rfl Try.underlying26 rfl (fun _ h => hl.keep h (by simp [dom]))) rfl rfl ?_
  refine l_q rfl (q_move rfl rfl) rfl rfl ?_
  refine l_nil ?_
  refine k_then ?_
  refine c_block ?_
  refine c_loop2 (fun (i : Nat) (st : List (Nat × Bool)) => [(1, vo), (5, vl), (14, va), (15, .int .i64 (l.length : Int)), (16, .int .i64 (i : Int))]) (fun (i : Nat) (st : List (Nat × Bool)) => St w [] [rowE vl 57 encZ st]) (fun (i : Nat) (st : List (Nat × Bool)) => i ≤ l.length ∧ chk ops (l.take i) = some st ∧ st.length = ops.length) (fun (i : Nat) (st : List (Nat × Bool)) => l.length - i) (0) (List.replicate ops.length (0, false)) ⟨Nat.zero_le _, chk_zero ops l, List.length_replicate ..⟩ (Sub.cons rfl (Sub.cons rfl (Sub.cons rfl (Sub.cons rfl (Sub.cons rfl (Sub.nil)))))) (fun _ h => by rw [← hvl]; exact h) ?_
  intro i st hp
  refine c_seq ?_
  obtain ⟨hi, hck, hst⟩ := hp
  obtain ⟨hinv, hbd⟩ := chk_inv hck
  have htl := List.length_take_le i l
  refine c_region _ rfl ?_
  refine l_q rfl (q_lss rfl rfl rfl) rfl rfl ?_
  refine l_nil ?_
  refine k_then ?_
  refine c_seq ?_
  refine Pre.caseB 17 rfl (fun h1 => ?_) (fun h1 => ?_)
  · try simp only [decide_eq_true_eq, decide_eq_false_iff_not, Bool.not_eq_true', Bool.not_eq_false'] at h1
    obtain ⟨x, hx⟩ : ∃ x, l[i]? = some x := ⟨_, List.getElem?_eq_getElem (by omega)⟩
    have hsn := chk_snoc hx hck
    refine c_true rfl ?_
    refine c_skip ?_
    refine k_then ?_
    refine c_seq ?_
    refine c_block ?_
    refine c_seq ?_
    refine c_region _ rfl ?_
    refine l_q rfl (q_indexV i rfl Try.underlying26 Try.sizeOf52 rfl (fun _ h => hl.keep h (by simp [dom])) rfl rfl (by omega)) rfl rfl ?_
    refine l_q rfl (q_loadVAgg i rfl Try.isAgg52 Try.sizeOf52 rfl rfl (fun _ h => hl.keep h (by simp [dom])) hx) rfl rfl ?_
    refine l_e rfl ?_
    refine e_alloc rfl rfl rfl Try.zeroValue52 ?_
    intro be
    refine l_e rfl ?_
    refine e_storeAgg rfl rfl Try.sizeOf52 rfl rfl (Ev.c_len _) (Ev.one _) (by show 0 + (Ev.c x).length ≤ 22; rw [Ev.c_len]; decide) ?_
    refine cells_eq (show Sep.splice _ 0 x.c = x.c from Sep.splice_all (by rw [Ev.c_len]; rfl)) ?_
    refine l_nil ?_
    refine k_then ?_
    refine c_seq ?_
    refine c_seq ?_
    refine c_region _ rfl ?_
    refine l_q rfl (q_fieldAddr rfl Try.underlying52 rfl Try.sizeOf3 rfl rfl) rfl rfl ?_
    refine l_q rfl (q_loadC rfl Try.isAgg3 rfl (fun _ h => h.at 0 rfl) rfl) rfl rfl ?_
    refine l_q rfl (q_lss rfl rfl rfl) rfl rfl ?_
    refine l_q rfl (q_move rfl rfl) rfl rfl ?_
    refine Pre.caseB 23 rfl (fun h2 => ?_) (fun h2 => ?_)
    · try simp only [decide_eq_true_eq, decide_eq_false_iff_not, Bool.not_eq_true', Bool.not_eq_false'] at h2
      have hno : stp ops st x = none := stp_out (by omega)
      refine l_not rfl rfl rfl ?_
      refine l_not rfl rfl rfl ?_
      refine l_not rfl rfl rfl ?_
      refine l_not rfl rfl rfl ?_
      refine l_not rfl rfl rfl ?_
      refine l_q rfl (q_pick_t rfl rfl rfl) rfl rfl ?_
      refine l_nil ?_
      refine k_then ?_
      refine c_true rfl ?_
      refine c_seq ?_
      refine c_region _ rfl ?_
      refine l_q rfl (q_assign rfl rfl) rfl rfl ?_
      refine l_nil ?_
      refine k_then ?_
      refine c_ret ?_
      refine k_then_ret ?_
      refine k_block_ret ?_
      refine k_then_ret ?_
      refine k_then_ret ?_
      refine k_block_ret ?_
      refine k_then_ret ?_
      refine r_one rfl rfl ?_
      exact fun _ h => ⟨(), congrArg (fun z => Ending.returned (Value.bool z)) (chk_none (i := i + 1) (hsn.trans hno)).symm, trivial, h.nothing⟩
    · try simp only [decide_eq_true_eq, decide_eq_false_iff_not, Bool.not_eq_true', Bool.not_eq_false'] at h2
      refine l_q rfl (q_fieldAddr rfl Try.underlying52 rfl Try.sizeOf3 rfl rfl) rfl rfl ?_
      refine l_q rfl (q_loadC rfl Try.isAgg3 rfl (fun _ h => h.at 0 rfl) rfl) rfl rfl ?_
      refine l_q rfl (q_move rfl rfl) rfl rfl ?_
      refine l_q rfl (q_lenV rfl Try.underlying23 rfl (fun _ h => hvo.keep h (by simp [dom]))) rfl rfl ?_
      refine l_q rfl (q_geq rfl rfl rfl) rfl rfl ?_
      refine l_q rfl (q_pick_f rfl rfl rfl) rfl rfl ?_
      refine l_nil ?_
      refine k_then ?_
      refine Pre.caseB 29 rfl (fun h3 => ?_) (fun h3 => ?_)
      · try simp only [decide_eq_true_eq, decide_eq_false_iff_not, Bool.not_eq_true', Bool.not_eq_false'] at h3
        have hno : stp ops st x = none := stp_out (by omega)
        refine c_true rfl ?_
        refine c_seq ?_
        refine c_region _ rfl ?_
        refine l_q rfl (q_assign rfl rfl) rfl rfl ?_
        refine l_nil ?_
        refine k_then ?_
        refine c_ret ?_
        refine k_then_ret ?_
        refine k_block_ret ?_
        refine k_then_ret ?_
        refine k_then_ret ?_
        refine k_block_ret ?_
        refine k_then_ret ?_
        refine r_one rfl rfl ?_
        exact fun _ h => ⟨(), congrArg (fun z => Ending.returned (Value.bool z)) (chk_none (i := i + 1) (hsn.trans hno)).symm, trivial, h.nothing⟩
      · try simp only [decide_eq_true_eq, decide_eq_false_iff_not, Bool.not_eq_true', Bool.not_eq_false'] at h3
        obtain ⟨c, hc⟩ : ∃ c : Nat, x.client = (c : Int) := ⟨x.client.toNat, by omega⟩
        obtain ⟨s, hs⟩ : ∃ s, vs[c]? = some s := ⟨_, List.getElem?_eq_getElem (by omega)⟩
        obtain ⟨lo, hlo⟩ : ∃ o, ops[c]? = some o := ⟨_, List.getElem?_eq_getElem (by omega)⟩
        obtain ⟨⟨k, u⟩, hpk⟩ : ∃ p, st[c]? = some p := ⟨_, List.getElem?_eq_getElem (by omega)⟩
        have hrd := hin c s lo hs hlo
        have hlm := hO lo (List.mem_of_getElem? hlo)
        have hkb0 : k ≤ (l.take i).length := hbd _ (List.mem_of_getElem? hpk)
        have hkb : k ≤ 65536 := by omega
        refine c_false rfl ?_
        refine c_skip ?_
        refine k_then ?_
        refine c_seq ?_
        refine c_region _ rfl ?_
        refine l_q rfl (q_fieldAddr rfl Try.underlying52 rfl Try.sizeOf3 rfl rfl) rfl rfl ?_
        refine l_q rfl (q_loadC rfl Try.isAgg3 rfl (fun _ h => h.at 0 rfl) rfl) rfl rfl ?_
        refine l_q rfl (q_build ([.int .i64 x.index, .int .i64 0]) rfl rfl (fun w => by kernel_rfl)) rfl rfl ?_
        refine bool_cases (b := x.done) (fun hd => ?_) (fun hd => ?_)
        · refine bool_cases (b := u) (fun hu => ?_) (fun hu => ?_)
          · subst hu
            refine l_e rfl ?_
            refine e_alloc rfl rfl rfl Try.zeroValue57 ?_
            intro bw
            refine l_e rfl ?_
            refine e_storeAgg rfl rfl Try.sizeOf57 rfl rfl rfl (by intro v hv; simp only [List.mem_cons, List.not_mem_nil, or_false] at hv; rcases hv with rfl | rfl <;> rfl) (by show 0 + 2 ≤ 2; decide) ?_
            refine cells_eq (rfl) ?_
            refine l_nil ?_
            refine k_then ?_
            refine c_seq ?_
            refine c_seq ?_
            refine c_region _ rfl ?_
            refine l_q rfl (q_fieldAddr rfl Try.underlying52 rfl Try.sizeOf4 rfl rfl) rfl rfl ?_
            refine l_q rfl (q_loadC rfl Try.isAgg4 rfl (fun _ h => h.at 1 rfl) rfl) rfl rfl ?_
            refine l_nil ?_
            refine k_then ?_
            refine Pre.setB (t := 34) (c := true) rfl (hd) ?_
            refine c_true rfl ?_
            refine c_region _ rfl ?_
            refine l_q rfl (q_indexArr 1 rfl Try.underlying57 Try.sizeOf3 rfl rfl rfl (by omega)) rfl rfl ?_
            refine l_e rfl ?_
            refine e_store rfl rfl Try.sizeOf3 rfl rfl rfl (Nat.le_of_ble_eq_true rfl) ?_
            refine cells_eq (show _ = [.int .i64 x.index, .int .i64 1] from rfl) ?_
            refine l_nil ?_
            refine k_then ?_
            refine c_seq ?_
            refine c_region _ rfl ?_
            refine l_q rfl (q_move rfl rfl) rfl rfl ?_
            refine l_q rfl (q_fieldAddr rfl Try.underlying52 rfl Try.sizeOf3 rfl rfl) rfl rfl ?_
            refine l_q rfl (q_loadC rfl Try.isAgg3 rfl (fun _ h => h.at 1 rfl) rfl) rfl rfl ?_
            refine l_q rfl (q_indexV c rfl Try.underlying23 Try.sizeOf38 rfl (fun _ h => hvo.keep h (by simp [dom])) rfl hc (by omega)) rfl rfl ?_
            refine l_q rfl (q_loadV c 0 rfl Try.isAgg38 rfl rfl (fun _ h => hvo.keep h (by simp [dom])) hs rfl) rfl rfl ?_
            refine l_q rfl (q_assign rfl rfl) rfl rfl ?_
            refine l_nil ?_
            refine k_then ?_
            refine c_seq ?_
            refine c_seq ?_
            refine c_draw [(0, some true), (1, some true), (2, some true), (3, some true), (4, some true), (5, some true), (6, some true), (7, some true), (8, some true), (9, some true), (10, some true), (11, some true), (12, some true), (13, some true)] [] [(_, some true), (_, some true), (_, some true), (_, some true), (_, some true), (_, some true), (_, some true), (_, some true), (_, some true), (_, some true), (_, some true), (_, some true), (_, some true), (_, some true)] (fun w2 => RdV w2 vl encZ st ∧ (cellsE bw 57 [.int .i64 x.index, .int .i64 1]).at w2 ∧ (cellsE be 52 x.c).at w2 ∧ RdV w2 s.v Op.enc lo) (blind_then (blind_then (blind_block (blind_then (blind_then (blind_block (blind_then blind_body))))))) rfl (by kernel_rfl) (by kernel_rfl) rfl rfl rfl (by kernel_rfl) St.drawn (fun _ h => ⟨h.rd 2 rfl, h.at 0 rfl, h.at 1 rfl, hrd.keep h (by simp [dom])⟩) ?_
            refine d_q rfl (q_move rfl rfl) rfl rfl ?_
            refine d_q rfl (q_fieldAddr rfl Try.underlying52 rfl Try.sizeOf3 rfl rfl) rfl rfl ?_
            refine d_q rfl (q_loadC rfl Try.isAgg3 rfl (fun _ h => h.2.2.1) rfl) rfl rfl ?_
            refine d_q rfl (q_indexV c rfl Try.underlying58 Try.sizeOf57 rfl (fun _ h => h.1) rfl hc (by omega)) rfl rfl ?_
            refine d_q rfl (q_loadVAgg c rfl Try.isAgg57 Try.sizeOf57 rfl rfl (fun _ h => h.1) hpk) rfl rfl ?_
            refine d_q rfl (q_loadCAgg ([.int .i64 x.index, .int .i64 1]) rfl Try.isAgg57 Try.sizeOf57 rfl (fun _ h => h.2.1) (rfl) (rfl)) rfl rfl ?_
            refine d_q rfl (q_neZ (k : Int) 1 x.index 1 (wf_n8 hkb) (by decide) x.wi (by decide) rfl rfl rfl) rfl rfl ?_
            refine d_q rfl (q_move rfl rfl) rfl rfl ?_
            refine Pre.caseB 48 rfl (fun h5 => ?_) (fun h5 => ?_)
            · try simp only [Bool.not_eq_true', Bool.not_eq_false', decide_eq_true_eq, decide_eq_false_iff_not, and_true] at h5
              have hno : stp ops st x = none := stp_bad hc hlo hpk (by unfold okB; simp [show ¬ x.index = (k : Int) by omega])
              refine d_not rfl rfl rfl ?_
              refine d_not rfl rfl rfl ?_
              refine d_not rfl rfl rfl ?_
              refine d_not rfl rfl rfl ?_
              refine d_not rfl rfl rfl ?_
              refine d_q rfl (q_pick_t rfl rfl rfl) rfl rfl ?_
              refine d_nil ?_
              refine k_then ?_
              refine c_true rfl ?_
              refine c_seq ?_
              refine c_region _ rfl ?_
              refine l_q rfl (q_assign rfl rfl) rfl rfl ?_
              refine l_nil ?_
              refine k_then ?_
              refine c_ret ?_
              refine k_then_ret ?_
              refine k_block_ret ?_
              refine k_then_ret ?_
              refine k_then_ret ?_
              refine k_block_ret ?_
              refine k_then_ret ?_
              refine r_one rfl rfl ?_
              exact fun _ h => ⟨(), congrArg (fun z => Ending.returned (Value.bool z)) (chk_none (i := i + 1) (hsn.trans hno)).symm, trivial, h.nothing⟩
            · try simp only [Bool.not_eq_true', Bool.not_eq_false', decide_eq_true_eq, decide_eq_false_iff_not, and_true] at h5
              have hxk : x.index = (k : Int) := by omega
              refine d_q rfl (q_fieldAddr rfl Try.underlying52 rfl Try.sizeOf3 rfl rfl) rfl rfl ?_
              refine d_q rfl (q_loadC rfl Try.isAgg3 rfl (fun _ h => h.2.2.1) rfl) rfl rfl ?_
              refine d_q rfl (q_move rfl rfl) rfl rfl ?_
              refine d_q rfl (q_lenV rfl Try.underlying38 rfl (fun _ h => h.2.2.2)) rfl rfl ?_
              refine d_q rfl (q_geq rfl rfl rfl) rfl rfl ?_
              refine d_q rfl (q_pick_f rfl rfl rfl) rfl rfl ?_
              refine d_nil ?_
              refine k_then ?_
              refine Pre.caseB 54 rfl (fun h6 => ?_) (fun h6 => ?_)
              · try simp only [decide_eq_true_eq, decide_eq_false_iff_not, Bool.not_eq_true', Bool.not_eq_false'] at h6
                have hno : stp ops st x = none := stp_bad hc hlo hpk (by unfold okB; simp [show lo[k]? = none from List.getElem?_eq_none (by omega)])
                refine c_true rfl ?_
                refine c_seq ?_
                refine c_region _ rfl ?_
                refine l_q rfl (q_assign rfl rfl) rfl rfl ?_
                refine l_nil ?_
                refine k_then ?_
                refine c_ret ?_
                refine k_then_ret ?_
                refine k_block_ret ?_
                refine k_then_ret ?_
                refine k_then_ret ?_
                refine k_block_ret ?_
                refine k_then_ret ?_
                refine r_one rfl rfl ?_
                exact fun _ h => ⟨(), congrArg (fun z => Ending.returned (Value.bool z)) (chk_none (i := i + 1) (hsn.trans hno)).symm, trivial, h.nothing⟩
              · try simp only [decide_eq_true_eq, decide_eq_false_iff_not, Bool.not_eq_true', Bool.not_eq_false'] at h6
                obtain ⟨o, ho⟩ : ∃ o, lo[k]? = some o := ⟨_, List.getElem?_eq_getElem (by omega)⟩
                refine c_false rfl ?_
                refine c_skip ?_
                refine k_then ?_
                refine c_seq ?_
                refine c_region _ rfl ?_
                refine l_q rfl (q_move rfl rfl) rfl rfl ?_
                refine l_q rfl (q_fieldAddr rfl Try.underlying52 rfl Try.sizeOf3 rfl rfl) rfl rfl ?_
                refine l_q rfl (q_loadC rfl Try.isAgg3 rfl (fun _ h => h.at 1 rfl) rfl) rfl rfl ?_
                refine l_q rfl (q_indexV k rfl Try.underlying38 Try.sizeOf37 rfl (fun _ h => hrd.keep h (by simp [dom])) rfl hxk (by omega)) rfl rfl ?_
                refine l_q rfl (q_loadVAgg k rfl Try.isAgg37 Try.sizeOf37 rfl rfl (fun _ h => hrd.keep h (by simp [dom])) ho) rfl rfl ?_
                refine l_e rfl ?_
                refine e_alloc rfl rfl rfl Try.zeroValue37 ?_
                intro bo
                refine l_e rfl ?_
                refine e_storeAgg rfl rfl Try.sizeOf37 rfl rfl (Op.c_len _) (Op.one _) (by show 0 + (Op.c o).length ≤ 4; rw [Op.c_len]; decide) ?_
                refine cells_eq (show Sep.splice _ 0 o.c = o.c from Sep.splice_all rfl) ?_
                refine l_nil ?_
                refine k_then ?_
                refine c_block ?_
                refine c_seq ?_
                refine c_region _ rfl ?_
                refine l_q rfl (q_fieldAddr rfl Try.underlying52 rfl Try.sizeOf4 rfl rfl) rfl rfl ?_
                refine l_q rfl (q_loadC rfl Try.isAgg4 rfl (fun _ h => h.at 2 rfl) rfl) rfl rfl ?_
                refine l_q rfl (q_not rfl rfl) rfl rfl ?_
                refine l_q rfl (q_assign rfl rfl) rfl rfl ?_
                refine l_nil ?_
                refine k_then ?_
                refine Pre.setB (t := 68) (c := false) rfl (by rw [hd]; rfl) ?_
                refine c_false rfl ?_
                refine c_seq ?_
                refine c_region _ rfl ?_
                refine l_q rfl (q_loadCAgg (o.c) rfl Try.isAgg37 Try.sizeOf37 rfl (fun _ h => h.at 0 rfl) (rfl) (rfl)) rfl rfl ?_
                refine l_q rfl (q_fieldAddr rfl Try.underlying52 rfl Try.sizeOf45 rfl rfl) rfl rfl ?_
                refine l_q rfl (q_loadCAgg (x.a.c) rfl Try.isAgg45 Try.sizeOf45 rfl (fun _ h => h.at 2 rfl) (Ev.a_part _) (An.c_len _)) rfl rfl ?_
                refine l_e rfl ?_
                refine e_call_00 (may_spec o x.a) rfl rfl rfl Try.call27 rfl (fun _ _ => trivial) ?_
                intro _ _
                refine l_q rfl (q_not rfl rfl) rfl rfl ?_
                refine l_q rfl (q_assign rfl rfl) rfl rfl ?_
                refine l_nil ?_
                refine k_then ?_
                refine Pre.caseB 91 rfl (fun h7 => ?_) (fun h7 => ?_)
                · try simp only [Bool.not_eq_true', Bool.not_eq_false'] at h7
                  have hno : stp ops st x = none := stp_bad hc hlo hpk (by unfold okB; simp [ho, hd, h7])
                  refine c_true rfl ?_
                  refine c_seq ?_
                  refine c_region _ rfl ?_
                  refine l_q rfl (q_assign rfl rfl) rfl rfl ?_
                  refine l_nil ?_
                  refine k_then ?_
                  refine c_ret ?_
                  refine k_block_ret ?_
                  refine k_block_ret ?_
                  refine k_then_ret ?_
                  refine k_then_ret ?_
                  refine k_block_ret ?_
                  refine k_then_ret ?_
                  refine r_one rfl rfl ?_
                  exact fun _ h => ⟨(), congrArg (fun z => Ending.returned (Value.bool z)) (chk_none (i := i + 1) (hsn.trans hno)).symm, trivial, h.nothing⟩
                · try simp only [Bool.not_eq_true', Bool.not_eq_false'] at h7
                  refine c_false rfl ?_
                  refine c_region _ rfl ?_
                  refine l_q rfl (q_move rfl rfl) rfl rfl ?_
                  refine l_q rfl (q_fieldAddr rfl Try.underlying52 rfl Try.sizeOf3 rfl rfl) rfl rfl ?_
                  refine l_q rfl (q_loadC rfl Try.isAgg3 rfl (fun _ h => h.at 2 rfl) rfl) rfl rfl ?_
                  refine l_q rfl (q_fieldAddr rfl Try.underlying52 rfl Try.sizeOf3 rfl rfl) rfl rfl ?_
                  refine l_q rfl (q_loadC rfl Try.isAgg3 rfl (fun _ h => h.at 2 rfl) rfl) rfl rfl ?_
                  refine l_q rfl (q_add64 rfl rfl rfl (by omega)) rfl rfl ?_
                  refine l_q rfl (q_build ([.int .i64 (x.index + 1), .int .i64 0]) rfl rfl (fun w => by kernel_rfl)) rfl rfl ?_
                  refine l_q rfl (q_indexV c rfl Try.underlying58 Try.sizeOf57 rfl (fun _ h => h.rd 3 rfl) rfl hc (by omega)) rfl rfl ?_
                  refine pull3 ?_
                  refine l_e rfl ?_
                  refine e_storeVAgg c (((k + 1, false) : Nat × Bool)) rfl rfl Try.sizeOf57 rfl rfl rfl (by rw [hxk]; rfl) (by omega) ?_
                  refine l_nil ?_
                  refine k_block ?_
                  refine k_block ?_
                  refine k_then ?_
                  refine c_region _ rfl ?_
                  refine l_q rfl (q_inc rfl rfl rfl (by omega)) rfl rfl ?_
                  refine l_q rfl (q_move rfl rfl) rfl rfl ?_
                  refine l_nil ?_
                  have hyes : stp ops st x = some (st.set c (k + 1, false)) := (stp_ok hc hlo hpk (by unfold okB; simp [ho, hd, hxk, h7, hinv c k lo o hpk hlo ho])).trans (by simp [nxt, hd])
                  refine pull1 ?_
                  refine drop0 ?_
                  refine pull1 ?_
                  refine drop0 ?_
                  refine pull1 ?_
                  refine drop0 ?_
                  exact k_round ((i + 1, st.set c (k + 1, false))) (by dsimp only; omega) ⟨by dsimp only; omega, hsn.trans hyes, by dsimp only; rw [List.length_set]; exact hst⟩ (Sub.cons rfl (Sub.cons rfl (Sub.cons rfl (Sub.cons rfl (Sub.cons rfl (Sub.nil)))))) (fun _ h => h)
          · subst hu
            refine l_e rfl ?_
            refine e_alloc rfl rfl rfl Try.zeroValue57 ?_
            intro bw
            refine l_e rfl ?_
            refine e_storeAgg rfl rfl Try.sizeOf57 rfl rfl rfl (by intro v hv; simp only [List.mem_cons, List.not_mem_nil, or_false] at hv; rcases hv with rfl | rfl <;> rfl) (by show 0 + 2 ≤ 2; decide) ?_
            refine cells_eq (rfl) ?_
            refine l_nil ?_
            refine k_then ?_
            refine c_seq ?_
            refine c_seq ?_
            refine c_region _ rfl ?_
            refine l_q rfl (q_fieldAddr rfl Try.underlying52 rfl Try.sizeOf4 rfl rfl) rfl rfl ?_
            refine l_q rfl (q_loadC rfl Try.isAgg4 rfl (fun _ h => h.at 1 rfl) rfl) rfl rfl ?_
            refine l_nil ?_
            refine k_then ?_
            refine Pre.setB (t := 34) (c := true) rfl (hd) ?_
            refine c_true rfl ?_
            refine c_region _ rfl ?_
            refine l_q rfl (q_indexArr 1 rfl Try.underlying57 Try.sizeOf3 rfl rfl rfl (by omega)) rfl rfl ?_
            refine l_e rfl ?_
            refine e_store rfl rfl Try.sizeOf3 rfl rfl rfl (Nat.le_of_ble_eq_true rfl) ?_
            refine cells_eq (show _ = [.int .i64 x.index, .int .i64 1] from rfl) ?_
            refine l_nil ?_
            refine k_then ?_
            refine c_seq ?_
            refine c_region _ rfl ?_
            refine l_q rfl (q_move rfl rfl) rfl rfl ?_
            refine l_q rfl (q_fieldAddr rfl Try.underlying52 rfl Try.sizeOf3 rfl rfl) rfl rfl ?_
            refine l_q rfl (q_loadC rfl Try.isAgg3 rfl (fun _ h => h.at 1 rfl) rfl) rfl rfl ?_
            refine l_q rfl (q_indexV c rfl Try.underlying23 Try.sizeOf38 rfl (fun _ h => hvo.keep h (by simp [dom])) rfl hc (by omega)) rfl rfl ?_
            refine l_q rfl (q_loadV c 0 rfl Try.isAgg38 rfl rfl (fun _ h => hvo.keep h (by simp [dom])) hs rfl) rfl rfl ?_
            refine l_q rfl (q_assign rfl rfl) rfl rfl ?_
            refine l_nil ?_
            refine k_then ?_
            refine c_seq ?_
            refine c_seq ?_
            refine c_draw [(0, some true), (1, some true), (2, some true), (3, some true), (4, some true), (5, some true), (6, some true), (7, some true), (8, some true), (9, some true), (10, some true), (11, some true), (12, some true), (13, some true)] [] [(_, some true), (_, some true), (_, some true), (_, some true), (_, some true), (_, some true), (_, some true), (_, some true), (_, some true), (_, some true), (_, some true), (_, some true), (_, some true), (_, some true)] (fun w2 => RdV w2 vl encZ st ∧ (cellsE bw 57 [.int .i64 x.index, .int .i64 1]).at w2 ∧ (cellsE be 52 x.c).at w2 ∧ RdV w2 s.v Op.enc lo) (blind_then (blind_then (blind_block (blind_then (blind_then (blind_block (blind_then blind_body))))))) rfl (by kernel_rfl) (by kernel_rfl) rfl rfl rfl (by kernel_rfl) St.drawn (fun _ h => ⟨h.rd 2 rfl, h.at 0 rfl, h.at 1 rfl, hrd.keep h (by simp [dom])⟩) ?_
            refine d_q rfl (q_move rfl rfl) rfl rfl ?_
            refine d_q rfl (q_fieldAddr rfl Try.underlying52 rfl Try.sizeOf3 rfl rfl) rfl rfl ?_
            refine d_q rfl (q_loadC rfl Try.isAgg3 rfl (fun _ h => h.2.2.1) rfl) rfl rfl ?_
            refine d_q rfl (q_indexV c rfl Try.underlying58 Try.sizeOf57 rfl (fun _ h => h.1) rfl hc (by omega)) rfl rfl ?_
            refine d_q rfl (q_loadVAgg c rfl Try.isAgg57 Try.sizeOf57 rfl rfl (fun _ h => h.1) hpk) rfl rfl ?_
            refine d_q rfl (q_loadCAgg ([.int .i64 x.index, .int .i64 1]) rfl Try.isAgg57 Try.sizeOf57 rfl (fun _ h => h.2.1) (rfl) (rfl)) rfl rfl ?_
            refine d_q rfl (q_neZ (k : Int) 0 x.index 1 (wf_n8 hkb) (by decide) x.wi (by decide) rfl rfl rfl) rfl rfl ?_
            refine d_q rfl (q_move rfl rfl) rfl rfl ?_
            refine Pre.setB (t := 48) (c := true) rfl (by simp) ?_
            refine d_not rfl rfl rfl ?_
            refine d_not rfl rfl rfl ?_
            refine d_not rfl rfl rfl ?_
            refine d_not rfl rfl rfl ?_
            refine d_not rfl rfl rfl ?_
            refine d_q rfl (q_pick_t rfl rfl rfl) rfl rfl ?_
            refine d_nil ?_
            refine k_then ?_
            refine c_true rfl ?_
            refine c_seq ?_
            refine c_region _ rfl ?_
            refine l_q rfl (q_assign rfl rfl) rfl rfl ?_
            refine l_nil ?_
            refine k_then ?_
            refine c_ret ?_
            refine k_then_ret ?_
            refine k_block_ret ?_
            refine k_then_ret ?_
            refine k_then_ret ?_
            refine k_block_ret ?_
            refine k_then_ret ?_
            have hno : stp ops st x = none := stp_bad hc hlo hpk (by unfold okB; simp [hd])
            refine r_one rfl rfl ?_
            exact fun _ h => ⟨(), congrArg (fun z => Ending.returned (Value.bool z)) (chk_none (i := i + 1) (hsn.trans hno)).symm, trivial, h.nothing⟩
        · refine bool_cases (b := u) (fun hu => ?_) (fun hu => ?_)
          · subst hu
            refine l_e rfl ?_
            refine e_alloc rfl rfl rfl Try.zeroValue57 ?_
            intro bw
            refine l_e rfl ?_
            refine e_storeAgg rfl rfl Try.sizeOf57 rfl rfl rfl (by intro v hv; simp only [List.mem_cons, List.not_mem_nil, or_false] at hv; rcases hv with rfl | rfl <;> rfl) (by show 0 + 2 ≤ 2; decide) ?_
            refine cells_eq (rfl) ?_
            refine l_nil ?_
            refine k_then ?_
            refine c_seq ?_
            refine c_seq ?_
            refine c_region _ rfl ?_
            refine l_q rfl (q_fieldAddr rfl Try.underlying52 rfl Try.sizeOf4 rfl rfl) rfl rfl ?_
            refine l_q rfl (q_loadC rfl Try.isAgg4 rfl (fun _ h => h.at 1 rfl) rfl) rfl rfl ?_
            refine l_nil ?_
            refine k_then ?_
            refine Pre.setB (t := 34) (c := false) rfl (hd) ?_
            refine c_false rfl ?_
            refine c_skip ?_
            refine k_then ?_
            refine c_seq ?_
            refine c_region _ rfl ?_
            refine l_q rfl (q_move rfl rfl) rfl rfl ?_
            refine l_q rfl (q_fieldAddr rfl Try.underlying52 rfl Try.sizeOf3 rfl rfl) rfl rfl ?_
            refine l_q rfl (q_loadC rfl Try.isAgg3 rfl (fun _ h => h.at 1 rfl) rfl) rfl rfl ?_
            refine l_q rfl (q_indexV c rfl Try.underlying23 Try.sizeOf38 rfl (fun _ h => hvo.keep h (by simp [dom])) rfl hc (by omega)) rfl rfl ?_
            refine l_q rfl (q_loadV c 0 rfl Try.isAgg38 rfl rfl (fun _ h => hvo.keep h (by simp [dom])) hs rfl) rfl rfl ?_
            refine l_q rfl (q_assign rfl rfl) rfl rfl ?_
            refine l_nil ?_
            refine k_then ?_
            refine c_seq ?_
            refine c_seq ?_
            refine c_draw [(0, some true), (1, some true), (2, some true), (3, some true), (4, some true), (5, some true), (6, some true), (7, some true), (8, some true), (9, some true), (10, some true), (11, some true), (12, some true), (13, some true)] [] [(_, some true), (_, some true), (_, some true), (_, some true), (_, some true), (_, some true), (_, some true), (_, some true), (_, some true), (_, some true), (_, some true), (_, some true), (_, some true), (_, some true)] (fun w2 => RdV w2 vl encZ st ∧ (cellsE bw 57 [.int .i64 x.index, .int .i64 0]).at w2 ∧ (cellsE be 52 x.c).at w2 ∧ RdV w2 s.v Op.enc lo) (blind_then (blind_then (blind_block (blind_then (blind_then (blind_block (blind_then blind_body))))))) rfl (by kernel_rfl) (by kernel_rfl) rfl rfl rfl (by kernel_rfl) St.drawn (fun _ h => ⟨h.rd 2 rfl, h.at 0 rfl, h.at 1 rfl, hrd.keep h (by simp [dom])⟩) ?_
            refine d_q rfl (q_move rfl rfl) rfl rfl ?_
            refine d_q rfl (q_fieldAddr rfl Try.underlying52 rfl Try.sizeOf3 rfl rfl) rfl rfl ?_
            refine d_q rfl (q_loadC rfl Try.isAgg3 rfl (fun _ h => h.2.2.1) rfl) rfl rfl ?_
            refine d_q rfl (q_indexV c rfl Try.underlying58 Try.sizeOf57 rfl (fun _ h => h.1) rfl hc (by omega)) rfl rfl ?_
            refine d_q rfl (q_loadVAgg c rfl Try.isAgg57 Try.sizeOf57 rfl rfl (fun _ h => h.1) hpk) rfl rfl ?_
            refine d_q rfl (q_loadCAgg ([.int .i64 x.index, .int .i64 0]) rfl Try.isAgg57 Try.sizeOf57 rfl (fun _ h => h.2.1) (rfl) (rfl)) rfl rfl ?_
            refine d_q rfl (q_neZ (k : Int) 1 x.index 0 (wf_n8 hkb) (by decide) x.wi (by decide) rfl rfl rfl) rfl rfl ?_
            refine d_q rfl (q_move rfl rfl) rfl rfl ?_
            refine Pre.setB (t := 48) (c := true) rfl (by simp) ?_
            refine d_not rfl rfl rfl ?_
            refine d_not rfl rfl rfl ?_
            refine d_not rfl rfl rfl ?_
            refine d_not rfl rfl rfl ?_
            refine d_not rfl rfl rfl ?_
            refine d_q rfl (q_pick_t rfl rfl rfl) rfl rfl ?_
            refine d_nil ?_
            refine k_then ?_
            refine c_true rfl ?_
            refine c_seq ?_
            refine c_region _ rfl ?_
            refine l_q rfl (q_assign rfl rfl) rfl rfl ?_
            refine l_nil ?_
            refine k_then ?_
            refine c_ret ?_
            refine k_then_ret ?_
            refine k_block_ret ?_
            refine k_then_ret ?_
            refine k_then_ret ?_
            refine k_block_ret ?_
            refine k_then_ret ?_
            have hno : stp ops st x = none := stp_bad hc hlo hpk (by unfold okB; simp [hd])
            refine r_one rfl rfl ?_
            exact fun _ h => ⟨(), congrArg (fun z => Ending.returned (Value.bool z)) (chk_none (i := i + 1) (hsn.trans hno)).symm, trivial, h.nothing⟩
          · subst hu
            refine l_e rfl ?_
            refine e_alloc rfl rfl rfl Try.zeroValue57 ?_
            intro bw
            refine l_e rfl ?_
            refine e_storeAgg rfl rfl Try.sizeOf57 rfl rfl rfl (by intro v hv; simp only [List.mem_cons, List.not_mem_nil, or_false] at hv; rcases hv with rfl | rfl <;> rfl) (by show 0 + 2 ≤ 2; decide) ?_
            refine cells_eq (rfl) ?_
            refine l_nil ?_
            refine k_then ?_
            refine c_seq ?_
            refine c_seq ?_
            refine c_region _ rfl ?_
            refine l_q rfl (q_fieldAddr rfl Try.underlying52 rfl Try.sizeOf4 rfl rfl) rfl rfl ?_
            refine l_q rfl (q_loadC rfl Try.isAgg4 rfl (fun _ h => h.at 1 rfl) rfl) rfl rfl ?_
            refine l_nil ?_
            refine k_then ?_
            refine Pre.setB (t := 34) (c := false) rfl (hd) ?_
            refine c_false rfl ?_
            refine c_skip ?_
            refine k_then ?_
            refine c_seq ?_
            refine c_region _ rfl ?_
            refine l_q rfl (q_move rfl rfl) rfl rfl ?_
            refine l_q rfl (q_fieldAddr rfl Try.underlying52 rfl Try.sizeOf3 rfl rfl) rfl rfl ?_
            refine l_q rfl (q_loadC rfl Try.isAgg3 rfl (fun _ h => h.at 1 rfl) rfl) rfl rfl ?_
            refine l_q rfl (q_indexV c rfl Try.underlying23 Try.sizeOf38 rfl (fun _ h => hvo.keep h (by simp [dom])) rfl hc (by omega)) rfl rfl ?_
            refine l_q rfl (q_loadV c 0 rfl Try.isAgg38 rfl rfl (fun _ h => hvo.keep h (by simp [dom])) hs rfl) rfl rfl ?_
            refine l_q rfl (q_assign rfl rfl) rfl rfl ?_
            refine l_nil ?_
            refine k_then ?_
            refine c_seq ?_
            refine c_seq ?_
            refine c_draw [(0, some true), (1, some true), (2, some true), (3, some true), (4, some true), (5, some true), (6, some true), (7, some true), (8, some true), (9, some true), (10, some true), (11, some true), (12, some true), (13, some true)] [] [(_, some true), (_, some true), (_, some true), (_, some true), (_, some true), (_, some true), (_, some true), (_, some true), (_, some true), (_, some true), (_, some true), (_, some true), (_, some true), (_, some true)] (fun w2 => RdV w2 vl encZ st ∧ (cellsE bw 57 [.int .i64 x.index, .int .i64 0]).at w2 ∧ (cellsE be 52 x.c).at w2 ∧ RdV w2 s.v Op.enc lo) (blind_then (blind_then (blind_block (blind_then (blind_then (blind_block (blind_then blind_body))))))) rfl (by kernel_rfl) (by kernel_rfl) rfl rfl rfl (by kernel_rfl) St.drawn (fun _ h => ⟨h.rd 2 rfl, h.at 0 rfl, h.at 1 rfl, hrd.keep h (by simp [dom])⟩) ?_
            refine d_q rfl (q_move rfl rfl) rfl rfl ?_
            refine d_q rfl (q_fieldAddr rfl Try.underlying52 rfl Try.sizeOf3 rfl rfl) rfl rfl ?_
            refine d_q rfl (q_loadC rfl Try.isAgg3 rfl (fun _ h => h.2.2.1) rfl) rfl rfl ?_
            refine d_q rfl (q_indexV c rfl Try.underlying58 Try.sizeOf57 rfl (fun _ h => h.1) rfl hc (by omega)) rfl rfl ?_
            refine d_q rfl (q_loadVAgg c rfl Try.isAgg57 Try.sizeOf57 rfl rfl (fun _ h => h.1) hpk) rfl rfl ?_
            refine d_q rfl (q_loadCAgg ([.int .i64 x.index, .int .i64 0]) rfl Try.isAgg57 Try.sizeOf57 rfl (fun _ h => h.2.1) (rfl) (rfl)) rfl rfl ?_
            refine d_q rfl (q_neZ (k : Int) 0 x.index 0 (wf_n8 hkb) (by decide) x.wi (by decide) rfl rfl rfl) rfl rfl ?_
            refine d_q rfl (q_move rfl rfl) rfl rfl ?_
            refine Pre.caseB 48 rfl (fun h5 => ?_) (fun h5 => ?_)
            · try simp only [Bool.not_eq_true', Bool.not_eq_false', decide_eq_true_eq, decide_eq_false_iff_not, and_true] at h5
              have hno : stp ops st x = none := stp_bad hc hlo hpk (by unfold okB; simp [show ¬ x.index = (k : Int) by omega])
              refine d_not rfl rfl rfl ?_
              refine d_not rfl rfl rfl ?_
              refine d_not rfl rfl rfl ?_
              refine d_not rfl rfl rfl ?_
              refine d_not rfl rfl rfl ?_
              refine d_q rfl (q_pick_t rfl rfl rfl) rfl rfl ?_
              refine d_nil ?_
              refine k_then ?_
              refine c_true rfl ?_
              refine c_seq ?_
              refine c_region _ rfl ?_
              refine l_q rfl (q_assign rfl rfl) rfl rfl ?_
              refine l_nil ?_
              refine k_then ?_
              refine c_ret ?_
              refine k_then_ret ?_
              refine k_block_ret ?_
              refine k_then_ret ?_
              refine k_then_ret ?_
              refine k_block_ret ?_
              refine k_then_ret ?_
              refine r_one rfl rfl ?_
              exact fun _ h => ⟨(), congrArg (fun z => Ending.returned (Value.bool z)) (chk_none (i := i + 1) (hsn.trans hno)).symm, trivial, h.nothing⟩
            · try simp only [Bool.not_eq_true', Bool.not_eq_false', decide_eq_true_eq, decide_eq_false_iff_not, and_true] at h5
              have hxk : x.index = (k : Int) := by omega
              refine d_q rfl (q_fieldAddr rfl Try.underlying52 rfl Try.sizeOf3 rfl rfl) rfl rfl ?_
              refine d_q rfl (q_loadC rfl Try.isAgg3 rfl (fun _ h => h.2.2.1) rfl) rfl rfl ?_
              refine d_q rfl (q_move rfl rfl) rfl rfl ?_
              refine d_q rfl (q_lenV rfl Try.underlying38 rfl (fun _ h => h.2.2.2)) rfl rfl ?_
              refine d_q rfl (q_geq rfl rfl rfl) rfl rfl ?_
              refine d_q rfl (q_pick_f rfl rfl rfl) rfl rfl ?_
              refine d_nil ?_
              refine k_then ?_
              refine Pre.caseB 54 rfl (fun h6 => ?_) (fun h6 => ?_)
              · try simp only [decide_eq_true_eq, decide_eq_false_iff_not, Bool.not_eq_true', Bool.not_eq_false'] at h6
                have hno : stp ops st x = none := stp_bad hc hlo hpk (by unfold okB; simp [show lo[k]? = none from List.getElem?_eq_none (by omega)])
                refine c_true rfl ?_
                refine c_seq ?_
                refine c_region _ rfl ?_
                refine l_q rfl (q_assign rfl rfl) rfl rfl ?_
                refine l_nil ?_
                refine k_then ?_
                refine c_ret ?_
                refine k_then_ret ?_
                refine k_block_ret ?_
                refine k_then_ret ?_
                refine k_then_ret ?_
                refine k_block_ret ?_
                refine k_then_ret ?_
                refine r_one rfl rfl ?_
                exact fun _ h => ⟨(), congrArg (fun z => Ending.returned (Value.bool z)) (chk_none (i := i + 1) (hsn.trans hno)).symm, trivial, h.nothing⟩
              · try simp only [decide_eq_true_eq, decide_eq_false_iff_not, Bool.not_eq_true', Bool.not_eq_false'] at h6
                obtain ⟨o, ho⟩ : ∃ o, lo[k]? = some o := ⟨_, List.getElem?_eq_getElem (by omega)⟩
                refine c_false rfl ?_
                refine c_skip ?_
                refine k_then ?_
                refine c_seq ?_
                refine c_region _ rfl ?_
                refine l_q rfl (q_move rfl rfl) rfl rfl ?_
                refine l_q rfl (q_fieldAddr rfl Try.underlying52 rfl Try.sizeOf3 rfl rfl) rfl rfl ?_
                refine l_q rfl (q_loadC rfl Try.isAgg3 rfl (fun _ h => h.at 1 rfl) rfl) rfl rfl ?_
                refine l_q rfl (q_indexV k rfl Try.underlying38 Try.sizeOf37 rfl (fun _ h => hrd.keep h (by simp [dom])) rfl hxk (by omega)) rfl rfl ?_
                refine l_q rfl (q_loadVAgg k rfl Try.isAgg37 Try.sizeOf37 rfl rfl (fun _ h => hrd.keep h (by simp [dom])) ho) rfl rfl ?_
                refine l_e rfl ?_
                refine e_alloc rfl rfl rfl Try.zeroValue37 ?_
                intro bo
                refine l_e rfl ?_
                refine e_storeAgg rfl rfl Try.sizeOf37 rfl rfl (Op.c_len _) (Op.one _) (by show 0 + (Op.c o).length ≤ 4; rw [Op.c_len]; decide) ?_
                refine cells_eq (show Sep.splice _ 0 o.c = o.c from Sep.splice_all rfl) ?_
                refine l_nil ?_
                refine k_then ?_
                refine c_block ?_
                refine c_seq ?_
                refine c_region _ rfl ?_
                refine l_q rfl (q_fieldAddr rfl Try.underlying52 rfl Try.sizeOf4 rfl rfl) rfl rfl ?_
                refine l_q rfl (q_loadC rfl Try.isAgg4 rfl (fun _ h => h.at 2 rfl) rfl) rfl rfl ?_
                refine l_q rfl (q_not rfl rfl) rfl rfl ?_
                refine l_q rfl (q_assign rfl rfl) rfl rfl ?_
                refine l_nil ?_
                refine k_then ?_
                refine Pre.setB (t := 68) (c := true) rfl (by rw [hd]; rfl) ?_
                refine c_true rfl ?_
                refine c_seq ?_
                refine c_seq ?_
                refine c_region _ rfl ?_
                refine l_q rfl (q_fieldAddr rfl Try.underlying37 rfl Try.sizeOf3 rfl rfl) rfl rfl ?_
                refine l_q rfl (q_loadC rfl Try.isAgg3 rfl (fun _ h => h.at 0 rfl) rfl) rfl rfl ?_
                refine l_q rfl (q_lss rfl rfl rfl) rfl rfl ?_
                refine l_q rfl (q_move rfl rfl) rfl rfl ?_
                refine Pre.caseB 75 rfl (fun h8 => ?_) (fun h8 => ?_)
                · try simp only [decide_eq_true_eq, decide_eq_false_iff_not, Bool.not_eq_true', Bool.not_eq_false'] at h8
                  have hno : stp ops st x = none := stp_bad hc hlo hpk (by unfold okB kndB; simp [ho, hd, show ¬ 1 ≤ o.kind by omega])
                  refine l_not rfl rfl rfl ?_
                  refine l_not rfl rfl rfl ?_
                  refine l_not rfl rfl rfl ?_
                  refine l_q rfl (q_pick_t rfl rfl rfl) rfl rfl ?_
                  refine l_q rfl (q_move rfl rfl) rfl rfl ?_
                  refine l_not rfl rfl rfl ?_
                  refine l_not rfl rfl rfl ?_
                  refine l_not rfl rfl rfl ?_
                  refine l_not rfl rfl rfl ?_
                  refine l_q rfl (q_pick_t rfl rfl rfl) rfl rfl ?_
                  refine l_nil ?_
                  refine k_then ?_
                  refine c_true rfl ?_
                  refine c_seq ?_
                  refine c_region _ rfl ?_
                  refine l_q rfl (q_assign rfl rfl) rfl rfl ?_
                  refine l_nil ?_
                  refine k_then ?_
                  refine c_ret ?_
                  refine k_then_ret ?_
                  refine k_block_ret ?_
                  refine k_block_ret ?_
                  refine k_then_ret ?_
                  refine k_then_ret ?_
                  refine k_block_ret ?_
                  refine k_then_ret ?_
                  refine r_one rfl rfl ?_
                  exact fun _ h => ⟨(), congrArg (fun z => Ending.returned (Value.bool z)) (chk_none (i := i + 1) (hsn.trans hno)).symm, trivial, h.nothing⟩
                · try simp only [decide_eq_true_eq, decide_eq_false_iff_not, Bool.not_eq_true', Bool.not_eq_false'] at h8
                  refine l_q rfl (q_fieldAddr rfl Try.underlying37 rfl Try.sizeOf3 rfl rfl) rfl rfl ?_
                  refine l_q rfl (q_loadC rfl Try.isAgg3 rfl (fun _ h => h.at 0 rfl) rfl) rfl rfl ?_
                  refine l_q rfl (q_gtr rfl rfl rfl) rfl rfl ?_
                  refine l_q rfl (q_pick_f rfl rfl rfl) rfl rfl ?_
                  refine l_q rfl (q_move rfl rfl) rfl rfl ?_
                  refine Pre.caseB 80 rfl (fun h9 => ?_) (fun h9 => ?_)
                  · try simp only [decide_eq_true_eq, decide_eq_false_iff_not, Bool.not_eq_true', Bool.not_eq_false'] at h9
                    have hno : stp ops st x = none := stp_bad hc hlo hpk (by unfold okB kndB; simp [ho, hd, show ¬ o.kind ≤ 4 by omega])
                    refine l_not rfl rfl rfl ?_
                    refine l_not rfl rfl rfl ?_
                    refine l_not rfl rfl rfl ?_
                    refine l_not rfl rfl rfl ?_
                    refine l_q rfl (q_pick_t rfl rfl rfl) rfl rfl ?_
                    refine l_nil ?_
                    refine k_then ?_
                    refine c_true rfl ?_
                    refine c_seq ?_
                    refine c_region _ rfl ?_
                    refine l_q rfl (q_assign rfl rfl) rfl rfl ?_
                    refine l_nil ?_
                    refine k_then ?_
                    refine c_ret ?_
                    refine k_then_ret ?_
                    refine k_block_ret ?_
                    refine k_block_ret ?_
                    refine k_then_ret ?_
                    refine k_then_ret ?_
                    refine k_block_ret ?_
                    refine k_then_ret ?_
                    refine r_one rfl rfl ?_
                    exact fun _ h => ⟨(), congrArg (fun z => Ending.returned (Value.bool z)) (chk_none (i := i + 1) (hsn.trans hno)).symm, trivial, h.nothing⟩
                  · try simp only [decide_eq_true_eq, decide_eq_false_iff_not, Bool.not_eq_true', Bool.not_eq_false'] at h9
                    refine l_q rfl (q_fieldAddr rfl Try.underlying52 rfl Try.sizeOf45 rfl rfl) rfl rfl ?_
                    refine l_q rfl (q_loadCAgg (x.a.c) rfl Try.isAgg45 Try.sizeOf45 rfl (fun _ h => h.at 2 rfl) (Ev.a_part _) (An.c_len _)) rfl rfl ?_
                    refine l_q rfl (q_build (an0.c) rfl rfl (fun w => by kernel_rfl)) rfl rfl ?_
                    refine l_q rfl (q_neA (x.a) (an0) rfl rfl rfl) rfl rfl ?_
                    refine l_q rfl (q_pick_f rfl rfl rfl) rfl rfl ?_
                    refine l_nil ?_
                    refine k_then ?_
                    refine Pre.caseB 85 rfl (fun h7 => ?_) (fun h7 => ?_)
                    · try simp only [Bool.not_eq_true', Bool.not_eq_false', decide_eq_true_eq, decide_eq_false_iff_not] at h7
                      have hno : stp ops st x = none := stp_bad hc hlo hpk (by unfold okB; simp [ho, hd, h7])
                      refine c_true rfl ?_
                      refine c_seq ?_
                      refine c_region _ rfl ?_
                      refine l_q rfl (q_assign rfl rfl) rfl rfl ?_
                      refine l_nil ?_
                      refine k_then ?_
                      refine c_ret ?_
                      refine k_then_ret ?_
                      refine k_block_ret ?_
                      refine k_block_ret ?_
                      refine k_then_ret ?_
                      refine k_then_ret ?_
                      refine k_block_ret ?_
                      refine k_then_ret ?_
                      refine r_one rfl rfl ?_
                      exact fun _ h => ⟨(), congrArg (fun z => Ending.returned (Value.bool z)) (chk_none (i := i + 1) (hsn.trans hno)).symm, trivial, h.nothing⟩
                    · try simp only [Bool.not_eq_true', Bool.not_eq_false', decide_eq_true_eq, decide_eq_false_iff_not] at h7
                      refine c_false rfl ?_
                      refine c_skip ?_
                      refine k_then ?_
                      refine c_region _ rfl ?_
                      refine l_q rfl (q_move rfl rfl) rfl rfl ?_
                      refine l_q rfl (q_fieldAddr rfl Try.underlying52 rfl Try.sizeOf3 rfl rfl) rfl rfl ?_
                      refine l_q rfl (q_loadC rfl Try.isAgg3 rfl (fun _ h => h.at 2 rfl) rfl) rfl rfl ?_
                      refine l_q rfl (q_indexV c rfl Try.underlying58 Try.sizeOf57 rfl (fun _ h => h.rd 3 rfl) rfl hc (by omega)) rfl rfl ?_
                      refine l_q rfl (q_indexArr 1 rfl Try.underlying57 Try.sizeOf3 rfl rfl rfl (by omega)) rfl rfl ?_
                      refine pull3 ?_
                      refine l_e rfl ?_
                      refine e_storeV c 1 (((k, true) : Nat × Bool)) rfl rfl Try.sizeOf3 rfl rfl rfl hpk (by decide) rfl ?_
                      refine l_nil ?_
                      refine k_block ?_
                      refine k_block ?_
                      refine k_then ?_
                      refine c_region _ rfl ?_
                      refine l_q rfl (q_inc rfl rfl rfl (by omega)) rfl rfl ?_
                      refine l_q rfl (q_move rfl rfl) rfl rfl ?_
                      refine l_nil ?_
                      have hyes : stp ops st x = some (st.set c (k, true)) := (stp_ok hc hlo hpk (by unfold okB kndB; simp [ho, hd, hxk, h7, show 1 ≤ o.kind by omega, show o.kind ≤ 4 by omega])).trans (by simp [nxt, hd])
                      refine pull1 ?_
                      refine drop0 ?_
                      refine pull1 ?_
                      refine drop0 ?_
                      refine pull1 ?_
                      refine drop0 ?_
                      exact k_round ((i + 1, st.set c (k, true))) (by dsimp only; omega) ⟨by dsimp only; omega, hsn.trans hyes, by dsimp only; rw [List.length_set]; exact hst⟩ (Sub.cons rfl (Sub.cons rfl (Sub.cons rfl (Sub.cons rfl (Sub.cons rfl (Sub.nil)))))) (fun _ h => h)
  · try simp only [decide_eq_true_eq, decide_eq_false_iff_not, Bool.not_eq_true', Bool.not_eq_false'] at h1
    have hie : i = l.length := by omega
    subst hie
    rw [List.take_length] at hck
    refine c_false rfl ?_
    refine c_exit ?_
    refine k_then_exit ?_
    refine k_then_exit ?_
    refine k_block_exit ?_
    refine k_then ?_
    refine c_seq ?_
    refine c_region _ rfl ?_
    refine l_q rfl (q_assign rfl rfl) rfl rfl ?_
    refine l_nil ?_
    refine k_then ?_
    refine c_ret ?_
    refine r_one rfl rfl ?_
    exact fun _ h => ⟨(), congrArg (fun z => Ending.returned (Value.bool z)) (by rw [hck]; rfl), trivial, h.nothing⟩
end Go.Proofs.Ythfdmeikpbkpaaa
