/- as the clock tells: plain; Order -/
import Derived.Test.YtpfbagkjhchojaaWo
import Derived.Test.YtpfbagkjhchojaaWn
set_option linter.unusedVariables false
set_option linter.unusedSimpArgs false
namespace Go.Proofs.Ytpfbagkjhchojaa
open Go.Sep Go.RowKit

/-! ## As the clock tells -/
def ckI : Nat → Mo
  | 0 => mo0 6
  | i + 1 => ((((ckI i).pin 0 (i : Int)).2.fill (i : Int) nvL.leaf nvL.l).2.unpin (i : Int)).2
theorem ckI_pin {i : Nat} (h : i < 6) : ((ckI i).pin 0 (i : Int)).1 = 3 := six0 (Q := fun i => ((ckI i).pin 0 (i : Int)).1 = 3) h (by decide +kernel) (by decide +kernel) (by decide +kernel) (by decide +kernel) (by decide +kernel) (by decide +kernel)
def ckV (b : Int) (r : Bool) : Vw := ⟨2, b, 0, 0, r, false, true, []⟩
def ckL (rs : List Bool) : Mo := ⟨(List.range 6).map (fun b : Nat => ckV (b : Int) (rs.getD b false)), [], [], 1⟩
def ck1 : Mo := (ckI 6).evict.2
theorem ck_ev : (ckI 6).evict.1 = some (ckV 0 true) := by kernel_rfl
theorem ck_pin0 : (ck1.pin 0 0).1 = 3 := by decide +kernel
theorem ck_two : (((ck1.pin 0 0).2.fill 0 nvL.leaf nvL.l).2.unpin 0).2 = ckL [true, false, false, false, false, false] := by kernel_rfl
theorem ck_go (b0 b1 b2 b3 b4 b5 : Bool) {x : Nat} (h : x < 6) : ((ckL [b0, b1, b2, b3, b4, b5]).pin 0 (x : Int)).1 = 1 ∧ (((ckL [b0, b1, b2, b3, b4, b5]).pin 0 (x : Int)).2.unpin (x : Int)).2 = ckL ([b0, b1, b2, b3, b4, b5].set x true) :=
  six0 (Q := fun x => ((ckL [b0, b1, b2, b3, b4, b5]).pin 0 (x : Int)).1 = 1 ∧ (((ckL [b0, b1, b2, b3, b4, b5]).pin 0 (x : Int)).2.unpin (x : Int)).2 = ckL ([b0, b1, b2, b3, b4, b5].set x true)) h (by constructor <;> kernel_rfl) (by constructor <;> kernel_rfl) (by constructor <;> kernel_rfl) (by constructor <;> kernel_rfl) (by constructor <;> kernel_rfl) (by constructor <;> kernel_rfl)
theorem six_list {rs : List Bool} (h : rs.length = 6) : ∃ b0 b1 b2 b3 b4 b5, rs = [b0, b1, b2, b3, b4, b5] := by
  match rs, h with
  | [b0, b1, b2, b3, b4, b5], _ => exact ⟨b0, b1, b2, b3, b4, b5, rfl⟩
theorem ck_go' {rs : List Bool} (hr : rs.length = 6) {x : Nat} (h : x < 6) : ((ckL rs).pin 0 (x : Int)).1 = 1 ∧ (((ckL rs).pin 0 (x : Int)).2.unpin (x : Int)).2 = ckL (rs.set x true) := by
  obtain ⟨b0, b1, b2, b3, b4, b5, rfl⟩ := six_list hr
  exact ck_go _ _ _ _ _ _ h
def ckM (rs : List Bool) (h : Nat) : Mo := ((ckL rs).pin 1 (h : Int)).2
def evs (M : Mo) : Nat → Mo
  | 0 => M
  | i + 1 => (evs M i).evict.2
def canP (M : Mo) : List Bool := M.fr.map (fun f => decide (f.pins = 0))
def ckW (rs : List Bool) (h : Nat) : List Nat := ordM ((canP (ckM rs h)).length + 1) (canP (ckM rs h)) (ckM rs h).rfs 1
def ckOK (rs : List Bool) (h : Nat) : Bool :=
  decide ((ckW rs h).length = 5) && (List.range 5).all (fun i => match (evs (ckM rs h) i).evict.1, (ckW rs h)[i]? with | some y, some k => decide (y.blk = (k : Int)) && !y.dirty && decide (k < 6) && decide (((ckM rs h).fr.map Vw.blk)[k]? = some (k : Int)) | _, _ => false) && (evs (ckM rs h) 5).evict.1.isNone && decide ((evs (ckM rs h) 5).free = 5) && decide ((ckM rs h).fr.length = 6)
set_option maxRecDepth 100000 in
theorem ck_all : ∀ (b0 b1 b2 b3 b4 b5 : Bool), (List.range 6).all (fun h => ckOK [b0, b1, b2, b3, b4, b5] h) = true := by decide +kernel
theorem ck_ok {rs : List Bool} (hr : rs.length = 6) {h : Nat} (hh : h < 6) : ckOK rs h = true := by
  obtain ⟨b0, b1, b2, b3, b4, b5, rfl⟩ := six_list hr
  exact List.all_eq_true.1 (ck_all b0 b1 b2 b3 b4 b5) h (List.mem_range.2 hh)
theorem ck_facts {rs : List Bool} (hr : rs.length = 6) {h : Nat} (hh : h < 6) : (ckW rs h).length = 5 ∧ (∀ i, i < 5 → ∃ y k, (evs (ckM rs h) i).evict.1 = some y ∧ (ckW rs h)[i]? = some k ∧ y.blk = (k : Int) ∧ y.dirty = false ∧ k < 6 ∧ ((ckM rs h).fr.map Vw.blk)[k]? = some (k : Int)) ∧ (evs (ckM rs h) 5).evict.1 = none ∧ (evs (ckM rs h) 5).free = 5 ∧ (ckM rs h).fr.length = 6 := by
  have := ck_ok hr hh
  unfold ckOK at this
  simp only [Bool.and_eq_true, decide_eq_true_eq] at this
  obtain ⟨⟨⟨⟨h1, h2⟩, h3⟩, h4⟩, h5⟩ := this
  refine ⟨h1, fun i hi => ?_, by simpa using h3, h4, h5⟩
  have h6 := List.all_eq_true.1 h2 i (List.mem_range.2 hi)
  cases he : (evs (ckM rs h) i).evict.1 with
  | none => rw [he] at h6; simp at h6
  | some y =>
    cases hw : (ckW rs h)[i]? with
    | none => rw [he, hw] at h6; simp at h6
    | some k =>
      rw [he, hw] at h6
      simp only [Bool.and_eq_true, decide_eq_true_eq, Bool.not_eq_true'] at h6
      exact ⟨y, k, rfl, rfl, h6.1.1.1, h6.1.1.2, h6.1.2, h6.2⟩
theorem nints_len' (l : List Nat) : (nints l).length = l.length := List.length_map ..
theorem nints_at {l : List Nat} {i k : Nat} (h : l[i]? = some k) : (nints l)[i]? = some (k : Int) := by unfold nints; rw [List.getElem?_map, h]; rfl
theorem fr_blk {l : List FC} {fr : List Vw} (h : l.map vw = fr) {i : Nat} {b : Int} (hb : (fr.map Vw.blk)[i]? = some b) : ∃ f, l[i]? = some f ∧ f.blk = b := by
  rw [← h, List.map_map, List.getElem?_map, Option.map_eq_some_iff] at hb
  obtain ⟨f, hf, rfl⟩ := hb
  exact ⟨f, hf, rfl⟩
theorem canP_eq {l : List FC} {M : Mo} (h : l.map vw = M.fr) : l.map (fun f => decide (f.pins = 0)) = canP M := by unfold canP; rw [← h, List.map_map]; rfl
theorem rfsP_eq {l : List FC} {M : Mo} (h : l.map vw = M.fr) : l.map FC.ref = M.rfs := by unfold Mo.rfs; rw [← h, List.map_map]; rfl
theorem ev_none {M : Mo} (h : M.evict.1 = none) : M.evict = (none, M) := by
  cases hs : (swM M.can M.rfs M.hand).1 with
  | none => exact evict_none hs
  | some k => unfold Mo.evict at h; rw [hs] at h; cases h
theorem ev_none2 {M : Mo} (h : M.evict.1 = none) : M.evict.2 = M := congrArg Prod.snd (ev_none h)

set_option maxRecDepth 100000 in
set_option maxHeartbeats 1000000 in
theorem rorder_spec {va vb : Value} (cs rs : List Bool) (hand : Int) (hw : (Lit.int .i64 hand).wf = true) (hn : cs.length ≤ 65536) : Con Try.prog 21 [va, vb, .int .i64 hand] (fun w => RdV w va encB cs ∧ RdV w vb encB rs) [] (fun v : Value => v) (fun _ => True) (fun v => [rowE v 3 (encI .i64) (nints (ordM (cs.length + 1) cs rs hand))]) := by
  intro w hE hH
  obtain ⟨hl, hr⟩ := hE
  refine enter (n := 43) (vs := [va, vb, .int .i64 hand]) (St w [] []) Try.func21 rfl rfl rfl (St.init hH) ?_
  refine c_seq ?_
  refine c_region _ rfl ?_
  refine l_q rfl (q_assign rfl rfl) rfl rfl ?_
  refine l_nil ?_
  refine k_then ?_
  refine c_seq ?_
  refine c_region _ rfl ?_
  refine l_q rfl (q_assign rfl rfl) rfl rfl ?_
  refine l_nil ?_
  refine k_then ?_
  refine c_seq ?_
  refine c_region _ rfl ?_
  refine l_e rfl ?_
  refine e_buildSliceV (sz := 1) [] rfl rfl rfl rfl rfl Try.underlying49 Try.sizeOf4 rfl Try.zeroValue4 rfl ?_
  intro b
  refine rowLit encB [] rfl rfl ?_
  refine l_q rfl (q_move rfl rfl) rfl rfl ?_
  refine l_e rfl ?_
  refine e_append rfl rfl rfl Try.underlying49 Try.underlying49 info4 rfl rfl rfl rfl rfl (fun _ h => hl.keep h (by simp)) (by simp only [byt4, List.length_append, List.length_cons, List.length_nil]; omega) (by simp only [List.length_append, List.length_cons, List.length_nil]; omega) ?_
  intro c
  refine l_q rfl (q_assign rfl rfl) rfl rfl ?_
  refine l_nil ?_
  refine k_then ?_
  refine c_seq ?_
  refine c_seq ?_
  refine c_region _ rfl ?_
  refine l_q rfl (q_assign rfl rfl) rfl rfl ?_
  refine l_nil ?_
  refine k_then ?_
  refine c_block ?_
  rw [List.nil_append]
  refine rd0E 4 hr ?_
  refine row0 3 (encI .i64) none ?_
  refine pull1 ?_
  refine pull2 ?_
  refine c_loop8 (fun (i : Nat) (cs2 : List Bool) (rs2 : List Bool) (hd : Int) (acc : List Int) (v : Value) (vr : Value) (s : Bool) => [(0, va), (8, c), (1, vr), (2, .int .i64 hd), (7, v), (9, .int .i64 (i : Int))]) (fun (i : Nat) (cs2 : List Bool) (rs2 : List Bool) (hd : Int) (acc : List Int) (v : Value) (vr : Value) (s : Bool) => St w [] [rowE c 4 encB cs2, Sep.rdE w s vr 4 encB rs2, rowE v 3 (encI .i64) acc]) (fun (i : Nat) (cs2 : List Bool) (rs2 : List Bool) (hd : Int) (acc : List Int) (v : Value) (vr : Value) (s : Bool) => i ≤ cs.length + 1 ∧ cs2.length = cs.length ∧ (Lit.int .i64 hd).wf = true ∧ acc.length = i ∧ acc ++ nints (ordM (cs.length + 1 - i) cs2 rs2 hd) = nints (ordM (cs.length + 1) cs rs hand)) (fun (i : Nat) (cs2 : List Bool) (rs2 : List Bool) (hd : Int) (acc : List Int) (v : Value) (vr : Value) (s : Bool) => cs.length + 1 - i) (0) (cs) (rs) (hand) ([]) (.slice none 0 0) (vb) (false) ⟨Nat.zero_le _, rfl, hw, rfl, rfl⟩ (Sub.cons rfl (Sub.cons rfl (Sub.cons rfl (Sub.cons rfl (Sub.cons rfl (Sub.cons rfl (Sub.nil))))))) (fun _ h => h) ?_
  intro i cs2 rs2 hd acc v vr s hp
  refine c_seq ?_
  refine c_seq ?_
  obtain ⟨hi, hcs, hwf, hal, heq⟩ := hp
  refine c_region _ rfl ?_
  refine l_q rfl (q_move rfl rfl) rfl rfl ?_
  refine l_q rfl (q_move rfl rfl) rfl rfl ?_
  refine l_q rfl (q_lenV rfl Try.underlying49 rfl (fun _ h => hl.keep h (by simp [dom]))) rfl rfl ?_
  refine l_q rfl (q_leq rfl rfl rfl) rfl rfl ?_
  refine l_nil ?_
  refine k_then ?_
  refine Pre.caseB 19 rfl (fun hic => ?_) (fun hic => ?_)
  · simp only [decide_eq_true_eq, decide_eq_false_iff_not, Bool.not_eq_true', Bool.not_eq_false'] at hic
    refine c_true rfl ?_
    refine c_skip ?_
    refine k_then ?_
    refine c_seq ?_
    refine c_block ?_
    refine c_seq ?_
    refine c_region _ rfl ?_
    refine l_q rfl (q_move rfl rfl) rfl rfl ?_
    refine l_q rfl (q_move rfl rfl) rfl rfl ?_
    refine l_q rfl (q_move rfl rfl) rfl rfl ?_
    refine l_e rfl ?_
    refine e_call_01 (rsweep_spec cs2 rs2 hd hwf (by omega)) rfl rfl rfl Try.call49 rfl (fun _ h => ⟨h.rd 0 rfl, h.rdE 1 rfl⟩) ?_
    intro vl _
    refine l_q rfl (q_move rfl rfl) rfl rfl ?_
    refine l_q rfl (q_extract rfl rfl rfl) rfl rfl ?_
    refine l_q rfl (q_extract rfl rfl rfl) rfl rfl ?_
    refine l_q rfl (q_extract rfl rfl rfl) rfl rfl ?_
    refine l_q rfl (q_assign rfl rfl) rfl rfl ?_
    refine l_q rfl (q_assign rfl rfl) rfl rfl ?_
    refine l_q rfl (q_assign rfl rfl) rfl rfl ?_
    refine l_nil ?_
    refine k_then ?_
    refine c_seq ?_
    refine c_seq ?_
    refine c_region _ rfl ?_
    refine l_q rfl (q_move rfl rfl) rfl rfl ?_
    refine l_q rfl (q_lss rfl rfl rfl) rfl rfl ?_
    refine l_nil ?_
    refine k_then ?_
    refine Pre.caseB 31 rfl (fun hpl => ?_) (fun hpl => ?_)
    · simp only [decide_eq_true_eq, decide_eq_false_iff_not, Bool.not_eq_true', Bool.not_eq_false'] at hpl
      rw [ord_none (sw_none.1 hpl)] at heq
      refine c_true rfl ?_
      refine c_seq ?_
      refine c_region _ rfl ?_
      refine l_q rfl (q_move rfl rfl) rfl rfl ?_
      refine l_q rfl (q_assign rfl rfl) rfl rfl ?_
      refine l_nil ?_
      refine k_then ?_
      refine c_ret ?_
      refine k_then_ret ?_
      refine k_block_ret ?_
      refine k_then_ret ?_
      refine k_then_ret ?_
      refine k_block_ret ?_
      refine k_then_ret ?_
      refine drop0 ?_
      refine drop0 ?_
      refine drop0 ?_
      refine r_one rfl rfl ?_
      exact fun _ h => ⟨v, rfl, trivial, by have e : acc = nints (ordM (cs.length + 1) cs rs hand) := (by simpa [nints] using heq); rw [← e]; exact h⟩
    · simp only [decide_eq_true_eq, decide_eq_false_iff_not, Bool.not_eq_true', Bool.not_eq_false'] at hpl
      obtain ⟨m, hm⟩ : ∃ m, cs.length + 1 - i = m + 1 := ⟨cs.length - i, by omega⟩
      rw [hm] at heq
      obtain ⟨k, hk⟩ : ∃ k, (swM cs2 rs2 hd).1 = some k := Option.ne_none_iff_exists'.1 (fun e => hpl (sw_none.2 e))
      have hP := (sw_some hk).1
      obtain ⟨hcan, hkl, _⟩ := sw_can hk
      have hcnt := cnt_set hcan
      have hcl := cnt_le cs2
      have hwf2 := wf_next hk (by omega)
      refine Pre.setV (t := 10) (c := .int .i64 (k : Int)) rfl (by rw [hP]) ?_
      refine c_false rfl ?_
      refine c_skip ?_
      refine k_then ?_
      refine c_seq ?_
      refine c_region _ rfl ?_
      refine l_q rfl (q_move rfl rfl) rfl rfl ?_
      refine l_q rfl (q_move rfl rfl) rfl rfl ?_
      refine l_e rfl ?_
      refine e_buildSliceV (sz := 1) [.tmp 34] rfl rfl rfl rfl rfl Try.underlying28 Try.sizeOf3 rfl Try.zeroValue3 rfl ?_
      intro b1
      refine pull4 ?_
      refine l_e rfl ?_
      refine e_append rfl rfl rfl Try.underlying28 Try.underlying28 info3 rfl rfl rfl rfl rfl (fun _ h => lit_rd (h.at 1 rfl) (encI .i64) [(k : Int)] rfl rfl) (by simp only [byt3, List.length_append, List.length_cons, List.length_nil]; omega) (by simp only [List.length_append, List.length_cons, List.length_nil]; omega) ?_
      intro v2
      refine pull1 ?_
      refine drop0 ?_
      refine l_q rfl (q_assign rfl rfl) rfl rfl ?_
      refine l_nil ?_
      refine k_then ?_
      refine c_seq ?_
      refine c_region _ rfl ?_
      refine l_q rfl (q_move rfl rfl) rfl rfl ?_
      refine l_q rfl (q_move rfl rfl) rfl rfl ?_
      refine l_q rfl (q_indexV k rfl Try.underlying49 Try.sizeOf4 rfl (fun _ h => h.rd 2 rfl) rfl rfl (by omega)) rfl rfl ?_
      refine pull2 ?_
      refine l_e rfl ?_
      refine e_storeV k 0 (false) rfl rfl Try.sizeOf4 rfl rfl rfl (gb hkl) (by decide) rfl ?_
      refine l_nil ?_
      refine k_then ?_
      refine c_region _ rfl ?_
      refine l_q rfl (q_move rfl rfl) rfl rfl ?_
      refine l_q rfl (q_move rfl rfl) rfl rfl ?_
      refine l_q rfl (q_assign rfl rfl) rfl rfl ?_
      refine l_q rfl (q_assign rfl rfl) rfl rfl ?_
      refine l_nil ?_
      refine k_block ?_
      refine k_then ?_
      refine c_region _ rfl ?_
      refine l_q rfl (q_move rfl rfl) rfl rfl ?_
      refine l_q rfl (q_inc rfl rfl rfl (by omega)) rfl rfl ?_
      refine l_q rfl (q_assign rfl rfl) rfl rfl ?_
      refine l_nil ?_
      refine pull3 ?_
      refine drop0 ?_
      refine pull1 ?_
      refine pull2 ?_
      refine pull2 ?_
      exact k_round ((i + 1, cs2.set k false, (swM cs2 rs2 hd).2, swN cs2 rs2 hd, acc ++ [(k : Int)], v2, vl, true)) (by dsimp only; omega) ⟨by dsimp only; omega, by simpa using hcs, hwf2, by simp [hal], by dsimp only; rw [snoc_nints, show cs.length + 1 - (i + 1) = m from by omega, ← ord_some hk]; exact heq⟩ (Sub.cons rfl (Sub.cons rfl (Sub.cons rfl (Sub.cons rfl (Sub.cons rfl (Sub.cons rfl (Sub.nil))))))) (fun _ h => h)
  · simp only [decide_eq_true_eq, decide_eq_false_iff_not, Bool.not_eq_true', Bool.not_eq_false'] at hic
    have hie : cs.length + 1 - i = 0 := by omega
    rw [hie] at heq
    refine c_false rfl ?_
    refine c_exit ?_
    refine k_then_exit ?_
    refine k_then_exit ?_
    refine k_block_exit ?_
    refine k_then ?_
    refine c_seq ?_
    refine c_region _ rfl ?_
    refine l_q rfl (q_move rfl rfl) rfl rfl ?_
    refine l_q rfl (q_assign rfl rfl) rfl rfl ?_
    refine l_nil ?_
    refine k_then ?_
    refine c_ret ?_
    refine drop0 ?_
    refine drop0 ?_
    refine r_one rfl rfl ?_
    exact fun _ h => ⟨v, rfl, trivial, by have e : acc = nints (ordM (cs.length + 1) cs rs hand) := (by simpa [nints, ordM] using heq); rw [← e]; exact h⟩
end Go.Proofs.Ytpfbagkjhchojaa
