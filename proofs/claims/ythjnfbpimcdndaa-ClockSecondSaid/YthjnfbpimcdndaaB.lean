/- clock: Order -/
import Derived.Test.YthjnfbpimcdndaaA
set_option linter.unusedVariables false
set_option linter.unusedSimpArgs false
namespace Go.Proofs.Ythjnfbpimcdndaa
open Go.Sep Go.RowKit

def nints (l : List Nat) : List Int := l.map (fun k : Nat => (k : Int))
theorem gb {l : List Bool} {k : Nat} (h : k < l.length) : l[k]? = some (l.getD k false) := by simp [List.getD_eq_getElem?_getD, h]
/-- Who goes, one behind the other. -/
def ordM : Nat → List Bool → List Bool → Int → List Nat
  | 0, _, _, _ => []
  | m + 1, cs, rs, hd => match (swM cs rs hd).1 with
    | none => []
    | some k => k :: ordM m (cs.set k false) (swM cs rs hd).2 (((k + 1) % cs.length : Nat) : Int)
theorem scn_can {cs : List Bool} : ∀ (ks : List Nat) (l : List Bool) (k : Nat), (scn cs ks l).1 = some k → cs.getD k false = true
  | [], l, k, h => by cases h
  | x :: ks, l, k, h => by
    unfold scn at h
    split at h
    · rename_i hc
      split at h
      · exact scn_can ks _ k h
      · cases h; exact hc
    · exact scn_can ks l k h
theorem sw_can {cs rs : List Bool} {hd : Int} {k : Nat} (h : (swM cs rs hd).1 = some k) : cs.getD k false = true ∧ k < cs.length ∧ ¬ (cs = [] ∨ rs.length ≠ cs.length) := by
  unfold swM at h
  split at h
  · cases h
  · rename_i hb
    have hc := scn_can _ _ _ h
    refine ⟨hc, ?_, hb⟩
    rcases Nat.lt_or_ge k cs.length with h1 | h1
    · exact h1
    · rw [List.getD_eq_getElem?_getD, List.getElem?_eq_none h1] at hc; cases hc
theorem sw_some {cs rs : List Bool} {hd : Int} {k : Nat} (h : (swM cs rs hd).1 = some k) : swP cs rs hd = (k : Int) ∧ swN cs rs hd = (((k + 1) % cs.length : Nat) : Int) := by
  have hb := (sw_can h).2.2
  unfold swP swN
  rw [h, if_neg hb]
  exact ⟨rfl, rfl⟩
theorem sw_none {cs rs : List Bool} {hd : Int} : swP cs rs hd < 0 ↔ (swM cs rs hd).1 = none := by
  unfold swP
  cases (swM cs rs hd).1 with
  | none => simp
  | some k => simp; try omega
theorem cnt_set {cs : List Bool} {k : Nat} (h : cs.getD k false = true) : (cs.set k false).count true + 1 = cs.count true := by
  induction cs generalizing k with
  | nil => simp at h
  | cons c cs ih =>
    cases k with
    | zero => simp at h; subst h; simp
    | succ k =>
      have := ih (k := k) (by simpa using h)
      simp only [List.set_cons_succ, List.count_cons]
      omega
theorem ord_some {cs rs : List Bool} {hd : Int} {k m : Nat} (h : (swM cs rs hd).1 = some k) : ordM (m + 1) cs rs hd = k :: ordM m (cs.set k false) (swM cs rs hd).2 (swN cs rs hd) := by
  rw [(sw_some h).2]
  conv => lhs; unfold ordM
  rw [h]
theorem ord_none {cs rs : List Bool} {hd : Int} {m : Nat} (h : (swM cs rs hd).1 = none) : ordM m cs rs hd = [] := by
  cases m with
  | zero => rfl
  | succ m => unfold ordM; rw [h]
theorem ord_fuel : ∀ (m : Nat) (cs rs : List Bool) (hd : Int), cs.count true < m → ordM m cs rs hd = ordM (cs.count true + 1) cs rs hd
  | 0, cs, rs, hd, h => by omega
  | m + 1, cs, rs, hd, h => by
    cases hs : (swM cs rs hd).1 with
    | none => rw [ord_none hs, ord_none hs]
    | some k =>
      have hc := cnt_set (sw_can hs).1
      rw [ord_some hs, ord_some hs, ord_fuel m _ _ _ (by omega), ← hc]
theorem cnt_le (cs : List Bool) : cs.count true ≤ cs.length := List.count_le_length
theorem wf_mod {k n : Nat} (hn : n ≤ 65536) (h0 : 0 < n) : (Lit.int .i64 ((k % n : Nat) : Int)).wf = true := by
  have := Nat.mod_lt k h0
  simp only [Lit.wf, Bool.and_eq_true, decide_eq_true_eq]
  exact ⟨by show (-2 ^ 63 : Int) ≤ _; omega, by show _ ≤ (2 ^ 63 - 1 : Int); omega⟩
theorem wf_next {cs rs : List Bool} {hd : Int} {k : Nat} (h : (swM cs rs hd).1 = some k) (hn : cs.length ≤ 65536) : (Lit.int .i64 (swN cs rs hd)).wf = true := by
  rw [(sw_some h).2]
  exact wf_mod hn (by have := (sw_can h).2.1; omega)
theorem snoc_nints (a : List Int) (k : Nat) (l : List Nat) : (a ++ [(k : Int)]) ++ nints l = a ++ nints (k :: l) := by simp [nints]

set_option maxRecDepth 100000 in
set_option maxHeartbeats 1000000 in
theorem order_spec {va vb : Value} (cs rs : List Bool) (hand : Int) (hw : (Lit.int .i64 hand).wf = true) (hn : cs.length ≤ 65536) : Con Try.prog 13 [va, vb, .int .i64 hand] (fun w => RdV w va encB cs ∧ RdV w vb encB rs) [] (fun v : Value => v) (fun _ => True) (fun v => [rowE v 3 (encI .i64) (nints (ordM (cs.length + 1) cs rs hand))]) := by
  intro w hE hH
  obtain ⟨hl, hr⟩ := hE
  refine enter (n := 33) (vs := [va, vb, .int .i64 hand]) (St w [] []) Try.func13 rfl rfl rfl (St.init hH) ?_
  refine c_seq ?_
  refine c_region _ rfl ?_
  refine l_q rfl (q_assign rfl rfl) rfl rfl ?_
  refine l_nil ?_
  refine k_then ?_
  refine c_seq ?_
  refine c_region _ rfl ?_
  refine l_q rfl (q_assign rfl rfl) rfl rfl ?_
  refine l_nil ?_
  refine k_then ?_
  refine c_seq ?_
  refine c_region _ rfl ?_
  refine l_q rfl (q_move rfl rfl) rfl rfl ?_
  refine l_e rfl ?_
  refine e_call_01 (clone_spec cs hn) rfl rfl rfl Try.call18 rfl (fun _ h => hl.keep h (by simp)) ?_
  intro c _
  refine l_q rfl (q_assign rfl rfl) rfl rfl ?_
  refine l_nil ?_
  refine k_then ?_
  refine c_block ?_
  refine rd0E 4 hr ?_
  refine row0 3 (encI .i64) none ?_
  refine pull1 ?_
  refine pull2 ?_
  refine c_loop7 (fun (cs2 : List Bool) (rs2 : List Bool) (hd : Int) (acc : List Int) (v : Value) (vr : Value) (s : Bool) => [(0, c), (1, vr), (2, .int .i64 hd), (7, v)]) (fun (cs2 : List Bool) (rs2 : List Bool) (hd : Int) (acc : List Int) (v : Value) (vr : Value) (s : Bool) => St w [] [rowE c 4 encB cs2, Sep.rdE w s vr 4 encB rs2, rowE v 3 (encI .i64) acc]) (fun (cs2 : List Bool) (rs2 : List Bool) (hd : Int) (acc : List Int) (v : Value) (vr : Value) (s : Bool) => cs2.length = cs.length ∧ (Lit.int .i64 hd).wf = true ∧ acc.length + cs2.count true ≤ cs.length ∧ acc ++ nints (ordM (cs2.count true + 1) cs2 rs2 hd) = nints (ordM (cs.length + 1) cs rs hand)) (fun (cs2 : List Bool) (rs2 : List Bool) (hd : Int) (acc : List Int) (v : Value) (vr : Value) (s : Bool) => cs2.count true) (cs) (rs) (hand) ([]) (.slice none 0 0) (vb) (false) ⟨rfl, hw, by simpa using cnt_le cs, by rw [List.nil_append, ord_fuel (cs.length + 1) cs rs hand (by have := cnt_le cs; omega)]⟩ (Sub.cons rfl (Sub.cons rfl (Sub.cons rfl (Sub.cons rfl (Sub.nil))))) (fun _ h => h) ?_
  intro cs2 rs2 hd acc v vr s hp
  refine c_block ?_
  refine c_seq ?_
  obtain ⟨hcs, hwf, hal, heq⟩ := hp
  refine c_region _ rfl ?_
  refine l_q rfl (q_move rfl rfl) rfl rfl ?_
  refine l_q rfl (q_move rfl rfl) rfl rfl ?_
  refine l_q rfl (q_move rfl rfl) rfl rfl ?_
  refine l_e rfl ?_
  refine e_call_01 (sweep_spec cs2 rs2 hd hwf (by omega)) rfl rfl rfl Try.call9 rfl (fun _ h => ⟨h.rd 0 rfl, h.rdE 1 rfl⟩) ?_
  intro vl _
  refine l_q rfl (q_move rfl rfl) rfl rfl ?_
  refine l_q rfl (q_extract rfl rfl rfl) rfl rfl ?_
  refine l_q rfl (q_extract rfl rfl rfl) rfl rfl ?_
  refine l_q rfl (q_extract rfl rfl rfl) rfl rfl ?_
  refine l_q rfl (q_assign rfl rfl) rfl rfl ?_
  refine l_q rfl (q_assign rfl rfl) rfl rfl ?_
  refine l_q rfl (q_assign rfl rfl) rfl rfl ?_
  refine l_nil ?_
  refine k_then ?_
  refine c_seq ?_
  refine c_seq ?_
  refine c_region _ rfl ?_
  refine l_q rfl (q_move rfl rfl) rfl rfl ?_
  refine l_q rfl (q_lss rfl rfl rfl) rfl rfl ?_
  refine l_nil ?_
  refine k_then ?_
  refine Pre.caseB 22 rfl (fun hpl => ?_) (fun hpl => ?_)
  · simp only [decide_eq_true_eq, decide_eq_false_iff_not, Bool.not_eq_true', Bool.not_eq_false'] at hpl
    rw [ord_none (sw_none.1 hpl)] at heq
    refine c_true rfl ?_
    refine c_seq ?_
    refine c_region _ rfl ?_
    refine l_q rfl (q_move rfl rfl) rfl rfl ?_
    refine l_q rfl (q_assign rfl rfl) rfl rfl ?_
    refine l_nil ?_
    refine k_then ?_
    refine c_ret ?_
    refine k_then_ret ?_
    refine k_block_ret ?_
    refine k_then_ret ?_
    refine k_block_ret ?_
    refine drop0 ?_
    refine drop0 ?_
    refine drop0 ?_
    refine r_one rfl rfl ?_
    exact fun _ h => ⟨v, rfl, trivial, by have e : acc = nints (ordM (cs.length + 1) cs rs hand) := (by simpa [nints] using heq); rw [← e]; exact h⟩
  · simp only [decide_eq_true_eq, decide_eq_false_iff_not, Bool.not_eq_true', Bool.not_eq_false'] at hpl
    obtain ⟨k, hk⟩ : ∃ k, (swM cs2 rs2 hd).1 = some k := Option.ne_none_iff_exists'.1 (fun e => hpl (sw_none.2 e))
    have hP := (sw_some hk).1
    obtain ⟨hcan, hkl, _⟩ := sw_can hk
    have hcnt := cnt_set hcan
    have hcl := cnt_le cs2
    have hwf2 := wf_next hk (by omega)
    refine Pre.setV (t := 8) (c := .int .i64 (k : Int)) rfl (by rw [hP]) ?_
    refine c_false rfl ?_
    refine c_skip ?_
    refine k_then ?_
    refine c_seq ?_
    refine c_region _ rfl ?_
    refine l_q rfl (q_move rfl rfl) rfl rfl ?_
    refine l_q rfl (q_move rfl rfl) rfl rfl ?_
    refine l_e rfl ?_
    refine e_buildSliceV (sz := 1) [.tmp 25] rfl rfl rfl rfl rfl Try.underlying28 Try.sizeOf3 rfl Try.zeroValue3 rfl ?_
    intro b1
    refine pull4 ?_
    refine l_e rfl ?_
    refine e_append rfl rfl rfl Try.underlying28 Try.underlying28 info3 rfl rfl rfl rfl rfl (fun _ h => lit_rd (h.at 1 rfl) (encI .i64) [(k : Int)] rfl rfl) (by simp only [byt3, List.length_append, List.length_cons, List.length_nil]; omega) (by simp only [List.length_append, List.length_cons, List.length_nil]; omega) ?_
    intro v2
    refine pull1 ?_
    refine drop0 ?_
    refine l_q rfl (q_assign rfl rfl) rfl rfl ?_
    refine l_nil ?_
    refine k_then ?_
    refine c_region _ rfl ?_
    refine l_q rfl (q_move rfl rfl) rfl rfl ?_
    refine l_q rfl (q_move rfl rfl) rfl rfl ?_
    refine l_q rfl (q_move rfl rfl) rfl rfl ?_
    refine l_q rfl (q_move rfl rfl) rfl rfl ?_
    refine l_q rfl (q_indexV k rfl Try.underlying22 Try.sizeOf4 rfl (fun _ h => h.rd 2 rfl) rfl rfl (by omega)) rfl rfl ?_
    refine pull2 ?_
    refine l_e rfl ?_
    refine e_storeV k 0 (false) rfl rfl Try.sizeOf4 rfl rfl rfl (gb hkl) (by decide) rfl ?_
    refine l_q rfl (q_assign rfl rfl) rfl rfl ?_
    refine l_q rfl (q_assign rfl rfl) rfl rfl ?_
    refine l_nil ?_
    refine k_block ?_
    refine pull3 ?_
    refine drop0 ?_
    refine pull1 ?_
    refine pull2 ?_
    refine pull2 ?_
    exact k_round ((cs2.set k false, (swM cs2 rs2 hd).2, swN cs2 rs2 hd, acc ++ [(k : Int)], v2, vl, true)) (by dsimp only; omega) ⟨by simpa using hcs, hwf2, by dsimp only; simp only [List.length_append, List.length_cons, List.length_nil]; omega, by dsimp only; rw [snoc_nints, hcnt, ← ord_some hk]; exact heq⟩ (Sub.cons rfl (Sub.cons rfl (Sub.cons rfl (Sub.cons rfl (Sub.nil))))) (fun _ h => h)
set_option maxRecDepth 100000 in
set_option maxHeartbeats 1000000 in
theorem rorder_spec {va vb : Value} (cs rs : List Bool) (hand : Int) (hw : (Lit.int .i64 hand).wf = true) (hn : cs.length ≤ 65536) : Con Try.prog 14 [va, vb, .int .i64 hand] (fun w => RdV w va encB cs ∧ RdV w vb encB rs) [] (fun v : Value => v) (fun _ => True) (fun v => [rowE v 3 (encI .i64) (nints (ordM (cs.length + 1) cs rs hand))]) := by
  intro w hE hH
  obtain ⟨hl, hr⟩ := hE
  refine enter (n := 43) (vs := [va, vb, .int .i64 hand]) (St w [] []) Try.func14 rfl rfl rfl (St.init hH) ?_
  refine c_seq ?_
  refine c_region _ rfl ?_
  refine l_q rfl (q_assign rfl rfl) rfl rfl ?_
  refine l_nil ?_
  refine k_then ?_
  refine c_seq ?_
  refine c_region _ rfl ?_
  refine l_q rfl (q_assign rfl rfl) rfl rfl ?_
  refine l_nil ?_
  refine k_then ?_
  refine c_seq ?_
  refine c_region _ rfl ?_
  refine l_e rfl ?_
  refine e_buildSliceV (sz := 1) [] rfl rfl rfl rfl rfl Try.underlying22 Try.sizeOf4 rfl Try.zeroValue4 rfl ?_
  intro b
  refine rowLit encB [] rfl rfl ?_
  refine l_q rfl (q_move rfl rfl) rfl rfl ?_
  refine l_e rfl ?_
  refine e_append rfl rfl rfl Try.underlying22 Try.underlying22 info4 rfl rfl rfl rfl rfl (fun _ h => hl.keep h (by simp)) (by simp only [byt4, List.length_append, List.length_cons, List.length_nil]; omega) (by simp only [List.length_append, List.length_cons, List.length_nil]; omega) ?_
  intro c
  refine l_q rfl (q_assign rfl rfl) rfl rfl ?_
  refine l_nil ?_
  refine k_then ?_
  refine c_seq ?_
  refine c_seq ?_
  refine c_region _ rfl ?_
  refine l_q rfl (q_assign rfl rfl) rfl rfl ?_
  refine l_nil ?_
  refine k_then ?_
  refine c_block ?_
  rw [List.nil_append]
  refine rd0E 4 hr ?_
  refine row0 3 (encI .i64) none ?_
  refine pull1 ?_
  refine pull2 ?_
  refine c_loop8 (fun (i : Nat) (cs2 : List Bool) (rs2 : List Bool) (hd : Int) (acc : List Int) (v : Value) (vr : Value) (s : Bool) => [(0, va), (8, c), (1, vr), (2, .int .i64 hd), (7, v), (9, .int .i64 (i : Int))]) (fun (i : Nat) (cs2 : List Bool) (rs2 : List Bool) (hd : Int) (acc : List Int) (v : Value) (vr : Value) (s : Bool) => St w [] [rowE c 4 encB cs2, Sep.rdE w s vr 4 encB rs2, rowE v 3 (encI .i64) acc]) (fun (i : Nat) (cs2 : List Bool) (rs2 : List Bool) (hd : Int) (acc : List Int) (v : Value) (vr : Value) (s : Bool) => i ≤ cs.length + 1 ∧ cs2.length = cs.length ∧ (Lit.int .i64 hd).wf = true ∧ acc.length = i ∧ acc ++ nints (ordM (cs.length + 1 - i) cs2 rs2 hd) = nints (ordM (cs.length + 1) cs rs hand)) (fun (i : Nat) (cs2 : List Bool) (rs2 : List Bool) (hd : Int) (acc : List Int) (v : Value) (vr : Value) (s : Bool) => cs.length + 1 - i) (0) (cs) (rs) (hand) ([]) (.slice none 0 0) (vb) (false) ⟨Nat.zero_le _, rfl, hw, rfl, rfl⟩ (Sub.cons rfl (Sub.cons rfl (Sub.cons rfl (Sub.cons rfl (Sub.cons rfl (Sub.cons rfl (Sub.nil))))))) (fun _ h => h) ?_
  intro i cs2 rs2 hd acc v vr s hp
  refine c_seq ?_
  refine c_seq ?_
  obtain ⟨hi, hcs, hwf, hal, heq⟩ := hp
  refine c_region _ rfl ?_
  refine l_q rfl (q_move rfl rfl) rfl rfl ?_
  refine l_q rfl (q_move rfl rfl) rfl rfl ?_
  refine l_q rfl (q_lenV rfl Try.underlying22 rfl (fun _ h => hl.keep h (by simp [dom]))) rfl rfl ?_
  refine l_q rfl (q_leq rfl rfl rfl) rfl rfl ?_
  refine l_nil ?_
  refine k_then ?_
  refine Pre.caseB 19 rfl (fun hic => ?_) (fun hic => ?_)
  · simp only [decide_eq_true_eq, decide_eq_false_iff_not, Bool.not_eq_true', Bool.not_eq_false'] at hic
    refine c_true rfl ?_
    refine c_skip ?_
    refine k_then ?_
    refine c_seq ?_
    refine c_block ?_
    refine c_seq ?_
    refine c_region _ rfl ?_
    refine l_q rfl (q_move rfl rfl) rfl rfl ?_
    refine l_q rfl (q_move rfl rfl) rfl rfl ?_
    refine l_q rfl (q_move rfl rfl) rfl rfl ?_
    refine l_e rfl ?_
    refine e_call_01 (rsweep_spec cs2 rs2 hd hwf (by omega)) rfl rfl rfl Try.call10 rfl (fun _ h => ⟨h.rd 0 rfl, h.rdE 1 rfl⟩) ?_
    intro vl _
    refine l_q rfl (q_move rfl rfl) rfl rfl ?_
    refine l_q rfl (q_extract rfl rfl rfl) rfl rfl ?_
    refine l_q rfl (q_extract rfl rfl rfl) rfl rfl ?_
    refine l_q rfl (q_extract rfl rfl rfl) rfl rfl ?_
    refine l_q rfl (q_assign rfl rfl) rfl rfl ?_
    refine l_q rfl (q_assign rfl rfl) rfl rfl ?_
    refine l_q rfl (q_assign rfl rfl) rfl rfl ?_
    refine l_nil ?_
    refine k_then ?_
    refine c_seq ?_
    refine c_seq ?_
    refine c_region _ rfl ?_
    refine l_q rfl (q_move rfl rfl) rfl rfl ?_
    refine l_q rfl (q_lss rfl rfl rfl) rfl rfl ?_
    refine l_nil ?_
    refine k_then ?_
    refine Pre.caseB 31 rfl (fun hpl => ?_) (fun hpl => ?_)
    · simp only [decide_eq_true_eq, decide_eq_false_iff_not, Bool.not_eq_true', Bool.not_eq_false'] at hpl
      rw [ord_none (sw_none.1 hpl)] at heq
      refine c_true rfl ?_
      refine c_seq ?_
      refine c_region _ rfl ?_
      refine l_q rfl (q_move rfl rfl) rfl rfl ?_
      refine l_q rfl (q_assign rfl rfl) rfl rfl ?_
      refine l_nil ?_
      refine k_then ?_
      refine c_ret ?_
      refine k_then_ret ?_
      refine k_block_ret ?_
      refine k_then_ret ?_
      refine k_then_ret ?_
      refine k_block_ret ?_
      refine k_then_ret ?_
      refine drop0 ?_
      refine drop0 ?_
      refine drop0 ?_
      refine r_one rfl rfl ?_
      exact fun _ h => ⟨v, rfl, trivial, by have e : acc = nints (ordM (cs.length + 1) cs rs hand) := (by simpa [nints] using heq); rw [← e]; exact h⟩
    · simp only [decide_eq_true_eq, decide_eq_false_iff_not, Bool.not_eq_true', Bool.not_eq_false'] at hpl
      obtain ⟨m, hm⟩ : ∃ m, cs.length + 1 - i = m + 1 := ⟨cs.length - i, by omega⟩
      rw [hm] at heq
      obtain ⟨k, hk⟩ : ∃ k, (swM cs2 rs2 hd).1 = some k := Option.ne_none_iff_exists'.1 (fun e => hpl (sw_none.2 e))
      have hP := (sw_some hk).1
      obtain ⟨hcan, hkl, _⟩ := sw_can hk
      have hcnt := cnt_set hcan
      have hcl := cnt_le cs2
      have hwf2 := wf_next hk (by omega)
      refine Pre.setV (t := 10) (c := .int .i64 (k : Int)) rfl (by rw [hP]) ?_
      refine c_false rfl ?_
      refine c_skip ?_
      refine k_then ?_
      refine c_seq ?_
      refine c_region _ rfl ?_
      refine l_q rfl (q_move rfl rfl) rfl rfl ?_
      refine l_q rfl (q_move rfl rfl) rfl rfl ?_
      refine l_e rfl ?_
      refine e_buildSliceV (sz := 1) [.tmp 34] rfl rfl rfl rfl rfl Try.underlying28 Try.sizeOf3 rfl Try.zeroValue3 rfl ?_
      intro b1
      refine pull4 ?_
      refine l_e rfl ?_
      refine e_append rfl rfl rfl Try.underlying28 Try.underlying28 info3 rfl rfl rfl rfl rfl (fun _ h => lit_rd (h.at 1 rfl) (encI .i64) [(k : Int)] rfl rfl) (by simp only [byt3, List.length_append, List.length_cons, List.length_nil]; omega) (by simp only [List.length_append, List.length_cons, List.length_nil]; omega) ?_
      intro v2
      refine pull1 ?_
      refine drop0 ?_
      refine l_q rfl (q_assign rfl rfl) rfl rfl ?_
      refine l_nil ?_
      refine k_then ?_
      refine c_seq ?_
      refine c_region _ rfl ?_
      refine l_q rfl (q_move rfl rfl) rfl rfl ?_
      refine l_q rfl (q_move rfl rfl) rfl rfl ?_
      refine l_q rfl (q_indexV k rfl Try.underlying22 Try.sizeOf4 rfl (fun _ h => h.rd 2 rfl) rfl rfl (by omega)) rfl rfl ?_
      refine pull2 ?_
      refine l_e rfl ?_
      refine e_storeV k 0 (false) rfl rfl Try.sizeOf4 rfl rfl rfl (gb hkl) (by decide) rfl ?_
      refine l_nil ?_
      refine k_then ?_
      refine c_region _ rfl ?_
      refine l_q rfl (q_move rfl rfl) rfl rfl ?_
      refine l_q rfl (q_move rfl rfl) rfl rfl ?_
      refine l_q rfl (q_assign rfl rfl) rfl rfl ?_
      refine l_q rfl (q_assign rfl rfl) rfl rfl ?_
      refine l_nil ?_
      refine k_block ?_
      refine k_then ?_
      refine c_region _ rfl ?_
      refine l_q rfl (q_move rfl rfl) rfl rfl ?_
      refine l_q rfl (q_inc rfl rfl rfl (by omega)) rfl rfl ?_
      refine l_q rfl (q_assign rfl rfl) rfl rfl ?_
      refine l_nil ?_
      refine pull3 ?_
      refine drop0 ?_
      refine pull1 ?_
      refine pull2 ?_
      refine pull2 ?_
      exact k_round ((i + 1, cs2.set k false, (swM cs2 rs2 hd).2, swN cs2 rs2 hd, acc ++ [(k : Int)], v2, vl, true)) (by dsimp only; omega) ⟨by dsimp only; omega, by simpa using hcs, hwf2, by simp [hal], by dsimp only; rw [snoc_nints, show cs.length + 1 - (i + 1) = m from by omega, ← ord_some hk]; exact heq⟩ (Sub.cons rfl (Sub.cons rfl (Sub.cons rfl (Sub.cons rfl (Sub.cons rfl (Sub.cons rfl (Sub.nil))))))) (fun _ h => h)
  · simp only [decide_eq_true_eq, decide_eq_false_iff_not, Bool.not_eq_true', Bool.not_eq_false'] at hic
    have hie : cs.length + 1 - i = 0 := by omega
    rw [hie] at heq
    refine c_false rfl ?_
    refine c_exit ?_
    refine k_then_exit ?_
    refine k_then_exit ?_
    refine k_block_exit ?_
    refine k_then ?_
    refine c_seq ?_
    refine c_region _ rfl ?_
    refine l_q rfl (q_move rfl rfl) rfl rfl ?_
    refine l_q rfl (q_assign rfl rfl) rfl rfl ?_
    refine l_nil ?_
    refine k_then ?_
    refine c_ret ?_
    refine drop0 ?_
    refine drop0 ?_
    refine r_one rfl rfl ?_
    exact fun _ h => ⟨v, rfl, trivial, by have e : acc = nints (ordM (cs.length + 1) cs rs hand) := (by simpa [nints, ordM] using heq); rw [← e]; exact h⟩
end Go.Proofs.Ythjnfbpimcdndaa
