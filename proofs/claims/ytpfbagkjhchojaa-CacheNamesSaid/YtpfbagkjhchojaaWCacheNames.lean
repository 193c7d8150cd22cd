/- CacheNames, walked -/
import Derived.Test.YtpfbagkjhchojaaWn
import Derived.Test.YtpfbagkjhchojaaS9
set_option linter.unusedVariables false
set_option linter.unusedSimpArgs false
namespace Go.Proofs.Ytpfbagkjhchojaa
open Go.Sep Go.RowKit

set_option maxRecDepth 100000 in
set_option maxHeartbeats 1000000 in
theorem names_spec (n : Int) (hn : (Lit.int .u8 n).wf = true) (gv : Bool) (b : Int) : Con Try.prog 6 [.int .u8 n, .bool gv, .int .i64 b] (fun _ => True) [] (fun _ : Unit => .bool true) (fun _ => True) (fun _ => []) := by
  intro w hE hH
  have hnr := wf_u8 hn
  refine enter (n := 168) (vs := [.int .u8 n, .bool gv, .int .i64 b]) (St w [] []) Try.func6 rfl rfl rfl (St.init hH) ?_
  refine c_seq ?_
  refine c_region _ rfl ?_
  refine l_q rfl (q_assign rfl rfl) rfl rfl ?_
  refine l_nil ?_
  refine k_then ?_
  refine c_seq ?_
  refine c_region _ rfl ?_
  refine l_e rfl ?_
  refine e_callH [] (HA := []) (qnew 6 (by decide) (by decide)) rfl rfl rfl Try.call9 rfl (fun _ _ => trivial) ?_
  rintro ⟨r36, r36_⟩ ⟨hm37, hg38, hk39⟩
  dsimp only at hm37 hg38 hk39
  refine Pre.world (St _ _ (Q.H r36 r36_)) (fun _ h => h) ?_
  refine l_q rfl (q_move rfl rfl) rfl rfl ?_
  refine l_q rfl (q_extract rfl rfl rfl) rfl rfl ?_
  refine l_q rfl (q_extract rfl rfl rfl) rfl rfl ?_
  refine l_q rfl (q_assign rfl rfl) rfl rfl ?_
  refine l_q rfl (q_assign rfl rfl) rfl rfl ?_
  refine l_nil ?_
  refine k_then ?_
  refine c_seq ?_
  refine c_seq ?_
  refine c_region _ rfl ?_
  refine l_q rfl (q_move rfl rfl) rfl rfl ?_
  refine l_q rfl (q_neq rfl rfl rfl) rfl rfl ?_
  refine l_q rfl (q_move rfl rfl) rfl rfl ?_
  obtain ⟨k, hk, h1, h6⟩ : ∃ k : Nat, 1 + n % 6 = (k : Int) ∧ 1 ≤ k ∧ k ≤ 6 := ⟨(1 + n % 6).toNat, by omega, by omega, by omega⟩
  obtain ⟨hn0, hn1⟩ := hnr
  refine Pre.setB (t := 25) (c := false) rfl (rfl) ?_
  refine l_q rfl (q_move rfl rfl) rfl rfl ?_
  refine l_q rfl (q_eqp rfl Try.underlying23 rfl rfl) rfl rfl ?_
  refine l_q rfl (q_pick_f rfl rfl rfl) rfl rfl ?_
  refine l_nil ?_
  refine k_then ?_
  refine Pre.setB (t := 28) (c := false) rfl (rfl) ?_
  refine c_false rfl ?_
  refine c_skip ?_
  refine k_then ?_
  refine c_seq ?_
  refine c_region _ rfl ?_
  refine l_q rfl (q_move rfl rfl) rfl rfl ?_
  refine l_q rfl (q_rem_nn rfl rfl rfl (by omega) (by omega)) rfl rfl ?_
  refine l_q rfl (q_conv_in rfl Try.underlying5 Try.underlying3 rfl (by first | rfl | (simp only [IntKind.wrap]; omega) | exact wrap64_in (by omega))) rfl rfl ?_
  refine l_q rfl (q_add64 rfl rfl rfl (by omega)) rfl rfl ?_
  refine l_q rfl (q_assign rfl rfl) rfl rfl ?_
  refine l_nil ?_
  refine k_then ?_
  refine c_seq ?_
  refine c_seq ?_
  refine c_region _ rfl ?_
  refine l_q rfl (q_assign rfl rfl) rfl rfl ?_
  refine l_nil ?_
  refine k_then ?_
  refine c_block ?_
  refine Pre.setV (t := 9) (c := .int .i64 (k : Int)) rfl (by rw [hk]) ?_
  refine c_loop2 (fun (i : Nat) (q : Q) => [(1, .bool gv), (2, .int .i64 b), (7, .pointer (some ⟨r36, 0, none⟩)), (9, .int .i64 (k : Int)), (10, .int .i64 (i : Int))]) (fun (i : Nat) (q : Q) => St w [] (Q.H r36 q)) (fun (i : Nat) (q : Q) => i ≤ k ∧ q.M = clm i ∧ q.Ok i) (fun (i : Nat) (q : Q) => k - i) (0) (r36_) ⟨Nat.zero_le _, hm37, hk39⟩ (Sub.cons rfl (Sub.cons rfl (Sub.cons rfl (Sub.cons rfl (Sub.cons rfl (Sub.nil)))))) (fun _ h => h) ?_
  intro i q hp
  refine c_seq ?_
  refine c_seq ?_
  obtain ⟨hi, hqM, hqk⟩ := hp
  refine c_region _ rfl ?_
  refine l_q rfl (q_move rfl rfl) rfl rfl ?_
  refine l_q rfl (q_move rfl rfl) rfl rfl ?_
  refine l_q rfl (q_lss rfl rfl rfl) rfl rfl ?_
  refine l_nil ?_
  refine k_then ?_
  refine Pre.caseB 35 rfl (fun h1i => ?_) (fun h1i => ?_)
  · try simp only [decide_eq_true_eq, decide_eq_false_iff_not, Bool.not_eq_true', Bool.not_eq_false'] at h1i
    refine c_true rfl ?_
    refine c_skip ?_
    refine k_then ?_
    refine c_seq ?_
    refine c_block ?_
    refine c_seq ?_
    refine c_region _ rfl ?_
    refine l_q rfl (q_move rfl rfl) rfl rfl ?_
    refine l_e rfl ?_
    refine e_callH [] (qclaim hqk (by omega) (3)) rfl rfl rfl Try.call22 rfl (fun _ _ => trivial) ?_
    rintro q40 ⟨hm41_, _, hk42⟩
    refine Pre.world (St _ _ (Q.H r36 q40)) (fun _ h => h) ?_
    have hm41 : q40.M = (clm (i + 1)) := by rw [hm41_, hqM]; rfl
    refine Pre.setV (t := 39) (c := .bool true) rfl (by rw [hqM]; exact congrArg _ (clm_yes (by omega))) ?_
    refine l_q rfl (q_not rfl rfl) rfl rfl ?_
    refine l_nil ?_
    refine k_then ?_
    refine Pre.setB (t := 40) (c := false) rfl (rfl) ?_
    refine c_false rfl ?_
    refine c_skip ?_
    refine k_block ?_
    refine k_then ?_
    refine c_region _ rfl ?_
    refine l_q rfl (q_move rfl rfl) rfl rfl ?_
    refine l_q rfl (q_inc rfl rfl rfl (by omega)) rfl rfl ?_
    refine l_q rfl (q_assign rfl rfl) rfl rfl ?_
    refine l_nil ?_
    exact k_round ((i + 1, q40)) (by dsimp only; omega) ⟨by dsimp only; omega, hm41, hk42⟩ (Sub.cons rfl (Sub.cons rfl (Sub.cons rfl (Sub.cons rfl (Sub.cons rfl (Sub.nil)))))) (fun _ h => h)
  · try simp only [decide_eq_true_eq, decide_eq_false_iff_not, Bool.not_eq_true', Bool.not_eq_false'] at h1i
    have hik : i = k := by omega
    subst hik
    refine c_false rfl ?_
    refine c_exit ?_
    refine k_then_exit ?_
    refine k_then_exit ?_
    refine k_block_exit ?_
    refine k_then ?_
    refine c_seq ?_
    refine c_seq ?_
    refine c_region _ rfl ?_
    refine l_q rfl (q_move rfl rfl) rfl rfl ?_
    refine l_e rfl ?_
    refine e_callH [] (qfree hqk ) rfl rfl rfl Try.call18 rfl (fun _ _ => trivial) ?_
    rintro _ _
    refine Pre.world (St _ _ (Q.H r36 q)) (fun _ h => h) ?_
    refine Pre.setV (t := 42) (c := .int .i64 (6 - (i : Int))) rfl (by rw [hqM]; exact congrArg _ (clm_free h1 h6)) ?_
    refine l_q rfl (q_move rfl rfl) rfl rfl ?_
    refine l_q rfl (q_sub64 rfl rfl rfl (by omega)) rfl rfl ?_
    refine l_q rfl (q_neq rfl rfl rfl) rfl rfl ?_
    refine l_q rfl (q_move rfl rfl) rfl rfl ?_
    refine Pre.setB (t := 46) (c := false) rfl (by simp) ?_
    refine l_q rfl (q_move rfl rfl) rfl rfl ?_
    refine l_q rfl (q_build (nvL.c) rfl rfl (fun w => by kernel_rfl)) rfl rfl ?_
    refine row0 121 En.enc none ?_
    refine Pre.world (St _ _ (nrow nvL :: _)) (fun _ h => h) ?_
    refine l_e rfl ?_
    refine e_callH [] (qname hqk nvL (by show 0 ≤ 1000; decide) 2 9) rfl rfl rfl Try.call25 rfl (fun _ _ => trivial) ?_
    rintro q43 ⟨hm44_, _, hk45⟩
    refine Pre.world (St _ _ (_ :: Q.H r36 q43)) (fun _ h => h) ?_
    have hm44 : q43.M = (clm i) := by rw [hm44_, hqM]; exact congrArg Prod.snd (clm_name2 h1 h6 _ _ _)
    refine Pre.setV (t := 49) (c := .bool false) rfl (by rw [hqM]; exact congrArg _ (congrArg Prod.fst (clm_name2 h1 h6 _ _ _))) ?_
    refine l_q rfl (q_pick_f rfl rfl rfl) rfl rfl ?_
    refine l_nil ?_
    refine k_then ?_
    refine Pre.setB (t := 50) (c := false) rfl (rfl) ?_
    refine c_false rfl ?_
    refine c_skip ?_
    refine k_then ?_
    refine c_seq ?_
    refine c_seq ?_
    refine c_region _ rfl ?_
    refine l_q rfl (q_move rfl rfl) rfl rfl ?_
    refine l_nil ?_
    refine k_then ?_
    refine Pre.caseB 51 rfl (fun hg => ?_) (fun hg => ?_)
    · try simp only [decide_eq_true_eq, decide_eq_false_iff_not, Bool.not_eq_true', Bool.not_eq_false'] at hg
      refine c_true rfl ?_
      refine c_seq ?_
      refine c_region _ rfl ?_
      refine l_q rfl (q_move rfl rfl) rfl rfl ?_
      refine l_e rfl ?_
      refine e_callH [_] (qgive hk45 (3)) rfl rfl rfl Try.call24 rfl (fun _ _ => trivial) ?_
      rintro q46 ⟨hm47_, _, hk48⟩
      refine Pre.world (St _ _ (_ :: Q.H r36 q46)) (fun _ h => h) ?_
      have hm47 : q46.M = (mo0 6) := by rw [hm47_, hm44]; exact clm_give h1 h6
      refine Pre.setV (t := 53) (c := .int .i64 (i : Int)) rfl (by rw [hm44]; exact congrArg _ (clm_claims h1 h6)) ?_
      refine l_q rfl (q_move rfl rfl) rfl rfl ?_
      refine l_q rfl (q_eql rfl rfl rfl) rfl rfl ?_
      refine l_q rfl (q_move rfl rfl) rfl rfl ?_
      refine Pre.setB (t := 56) (c := true) rfl (by simp) ?_
      refine l_q rfl (q_move rfl rfl) rfl rfl ?_
      refine l_e rfl ?_
      refine e_callH [_] (qfree hk48 ) rfl rfl rfl Try.call18 rfl (fun _ _ => trivial) ?_
      rintro _ _
      refine Pre.world (St _ _ (_ :: Q.H r36 q46)) (fun _ h => h) ?_
      refine Pre.setV (t := 58) (c := .int .i64 6) rfl (by rw [hm47]; exact congrArg _ zero_free) ?_
      refine l_q rfl (q_eql rfl rfl rfl) rfl rfl ?_
      refine l_q rfl (q_pick_t rfl rfl rfl) rfl rfl ?_
      refine l_q rfl (q_move rfl rfl) rfl rfl ?_
      refine Pre.setB (t := 61) (c := true) rfl (rfl) ?_
      refine l_q rfl (q_move rfl rfl) rfl rfl ?_
      refine l_e rfl ?_
      refine e_callH [_] (qgive hk48 (3)) rfl rfl rfl Try.call24 rfl (fun _ _ => trivial) ?_
      rintro q49 ⟨hm50_, _, hk51⟩
      refine Pre.world (St _ _ (_ :: Q.H r36 q49)) (fun _ h => h) ?_
      have hm50 : q49.M = (mo0 6) := by rw [hm50_, hm47]; exact zero_give
      refine Pre.setV (t := 63) (c := .int .i64 0) rfl (by rw [hm47]; exact congrArg _ zero_claims) ?_
      refine l_q rfl (q_eql rfl rfl rfl) rfl rfl ?_
      refine l_q rfl (q_pick_t rfl rfl rfl) rfl rfl ?_
      refine l_q rfl (q_move rfl rfl) rfl rfl ?_
      refine Pre.setB (t := 66) (c := true) rfl (rfl) ?_
      refine l_q rfl (q_move rfl rfl) rfl rfl ?_
      refine l_q rfl (q_build (nvL.c) rfl rfl (fun w => by kernel_rfl)) rfl rfl ?_
      refine l_e rfl ?_
      refine e_callH [] (qname hk51 nvL (by show 0 ≤ 1000; decide) 3 9) rfl rfl rfl Try.call25 rfl (fun _ _ => trivial) ?_
      rintro q52 ⟨hm53_, _, hk54⟩
      refine Pre.world (St _ _ (_ :: Q.H r36 q52)) (fun _ h => h) ?_
      have hm53 : q52.M = (mo0 6) := by rw [hm53_, hm50]; exact congrArg Prod.snd (zero_name _ _ _)
      refine Pre.setV (t := 69) (c := .bool false) rfl (by rw [hm50]; exact congrArg _ (congrArg Prod.fst (zero_name _ _ _))) ?_
      refine l_q rfl (q_not rfl rfl) rfl rfl ?_
      refine l_q rfl (q_pick_t rfl rfl rfl) rfl rfl ?_
      refine l_q rfl (q_move rfl rfl) rfl rfl ?_
      refine Pre.setB (t := 72) (c := true) rfl (rfl) ?_
      refine l_e rfl ?_
      refine e_call_00 (awake_spec) rfl rfl rfl Try.call15 rfl (fun _ _ => trivial) ?_
      intro _ _
      refine l_q rfl (q_pick_t rfl rfl rfl) rfl rfl ?_
      refine l_q rfl (q_assign rfl rfl) rfl rfl ?_
      refine l_nil ?_
      refine k_then ?_
      refine c_ret ?_
      refine k_then_ret ?_
      refine r_one rfl rfl ?_
      exact fun _ h => ⟨(), rfl, trivial, h.nothing⟩
    · try simp only [decide_eq_true_eq, decide_eq_false_iff_not, Bool.not_eq_true', Bool.not_eq_false'] at hg
      refine c_false rfl ?_
      refine c_skip ?_
      refine k_then ?_
      refine c_seq ?_
      refine c_region _ rfl ?_
      refine l_q rfl (q_move rfl rfl) rfl rfl ?_
      obtain ⟨a, ha, hab⟩ : ∃ a : Int, b % 255 = a ∧ 0 ≤ a ∧ a < 255 := ⟨b % 255, rfl, by omega, by omega⟩
      refine l_e rfl ?_
      refine e_call_00 (plc_spec b 255 (by decide) (by decide)) rfl rfl rfl Try.call10 rfl (fun _ _ => trivial) ?_
      intro _ _
      rw [ha]
      refine l_q rfl (q_assign rfl rfl) rfl rfl ?_
      refine l_nil ?_
      refine k_then ?_
      refine c_seq ?_
      refine c_region _ rfl ?_
      refine l_q rfl (q_move rfl rfl) rfl rfl ?_
      refine l_q rfl (q_move rfl rfl) rfl rfl ?_
      refine l_e rfl ?_
      refine e_buildSliceV (sz := 1) [.const (.int .i64 8)] rfl rfl rfl rfl rfl Try.underlying28 Try.sizeOf3 rfl Try.zeroValue3 rfl ?_
      intro b1
      refine l_e rfl ?_
      refine e_call_01 (leaf_one (8)) rfl rfl rfl Try.call26 rfl (fun _ h => lit_rd (h.at 0 rfl) (encI .i64) [8] rfl rfl) ?_
      intro nv hnv
      obtain ⟨hlf, e, hle⟩ := hnv
      refine pull1 ?_
      refine drop0 ?_
      refine pull1 ?_
      have hnl : nv.l.length ≤ 1000 := by rw [hle]; show 1 ≤ 1000; decide
      refine l_e rfl ?_
      refine e_callH [_] (qname hk45 nv hnl 3 a) rfl rfl rfl Try.call25 rfl (fun _ _ => trivial) ?_
      rintro q55 ⟨hm56_, _, hk57⟩
      refine Pre.world (St _ _ (_ :: _ :: Q.H r36 q55)) (fun _ h => h) ?_
      have hm56 : q55.M = (nm i a nv.leaf nv.l) := by rw [hm56_, hm44]; exact congrArg Prod.snd (clm_name h1 h6 hab _ _)
      refine Pre.setV (t := 81) (c := .bool true) rfl (by rw [hm44]; exact congrArg _ (congrArg Prod.fst (clm_name h1 h6 hab _ _))) ?_
      refine l_q rfl (q_move rfl rfl) rfl rfl ?_
      refine l_q rfl (q_move rfl rfl) rfl rfl ?_
      refine l_q rfl (q_build (nvL.c) rfl rfl (fun w => by kernel_rfl)) rfl rfl ?_
      refine pull1 ?_
      refine l_e rfl ?_
      refine e_callH [_] (qname hk57 nvL (by show 0 ≤ 1000; decide) 3 a) rfl rfl rfl Try.call25 rfl (fun _ _ => trivial) ?_
      rintro q58 ⟨hm59_, _, hk60⟩
      refine Pre.world (St _ _ (_ :: _ :: Q.H r36 q58)) (fun _ h => h) ?_
      have hm59 : q58.M = (nm i a nv.leaf nv.l) := by rw [hm59_, hm56]; exact congrArg Prod.snd (nm_again h1 h6 _ _ _ _ _)
      refine Pre.setV (t := 85) (c := .bool false) rfl (by rw [hm56]; exact congrArg _ (congrArg Prod.fst (nm_again h1 h6 _ _ _ _ _))) ?_
      refine l_q rfl (q_assign rfl rfl) rfl rfl ?_
      refine l_q rfl (q_assign rfl rfl) rfl rfl ?_
      refine l_nil ?_
      refine k_then ?_
      refine c_seq ?_
      refine c_region _ rfl ?_
      refine l_q rfl (q_move rfl rfl) rfl rfl ?_
      refine l_e rfl ?_
      refine e_callH [_, _] (qframes2 hk60) rfl rfl rfl Try.call16 rfl (fun _ _ => trivial) ?_
      rintro ⟨v61, fl62, q63⟩ ⟨hf64, hn65, hm66_, hk67⟩
      refine Pre.world (St _ _ (_ :: _ :: rowE v61 44 FC.encA fl62 :: Q.H r36 q63)) (fun _ h => h) ?_
      dsimp only at hf64 hn65 hm66_ hk67
      rw [hm59] at hf64
      have hm66 : q63.M = (nm i a nv.leaf nv.l) := by rw [hm66_, hm59]
      refine l_q rfl (q_assign rfl rfl) rfl rfl ?_
      refine l_nil ?_
      refine k_then ?_
      refine c_seq ?_
      refine c_seq ?_
      refine c_region _ rfl ?_
      refine l_q rfl (q_move rfl rfl) rfl rfl ?_
      refine l_q rfl (q_not rfl rfl) rfl rfl ?_
      refine l_q rfl (q_move rfl rfl) rfl rfl ?_
      have hl6 : fl62.length = 6 := by
        have := congrArg List.length hf64
        rw [List.length_map, (nm_fr h1 h6 _ _ _).1] at this; exact this
      obtain ⟨f, hf0, hfv⟩ := fr_at hf64 (nm_fr h1 h6 _ _ _).2
      have hfb : f.blk = a := congrArg Vw.blk hfv
      have hfp : f.pins = 0 := congrArg Vw.pins hfv
      have hfr : f.ref = true := congrArg Vw.ref hfv
      have hfd : f.dirty = true := congrArg Vw.dirty hfv
      have hfe : f.nv.l = nv.l := congrArg Vw.es hfv
      have hfm := List.mem_of_getElem? hf0
      have hfl1 : f.nv.l.length = 1 := by rw [hfe, hle]; rfl
      refine Pre.setB (t := 90) (c := false) rfl (by first | rfl | (simp only [hl6]; done) | (simp [hl6, hfb, hfp, hfr, hfd, hfl1]; done)) ?_
      refine l_q rfl (q_move rfl rfl) rfl rfl ?_
      refine l_q rfl (q_pick_f rfl rfl rfl) rfl rfl ?_
      refine l_q rfl (q_move rfl rfl) rfl rfl ?_
      refine Pre.setB (t := 93) (c := false) rfl (by first | rfl | (simp only [hl6]; done) | (simp [hl6, hfb, hfp, hfr, hfd, hfl1]; done)) ?_
      refine l_q rfl (q_move rfl rfl) rfl rfl ?_
      refine l_q rfl (q_lenV rfl Try.underlying39 rfl (fun _ h => h.rd 2 rfl)) rfl rfl ?_
      refine l_q rfl (q_neq rfl rfl rfl) rfl rfl ?_
      refine l_q rfl (q_pick_f rfl rfl rfl) rfl rfl ?_
      refine l_q rfl (q_move rfl rfl) rfl rfl ?_
      refine Pre.setB (t := 98) (c := false) rfl (by first | rfl | (simp only [hl6]; done) | (simp [hl6, hfb, hfp, hfr, hfd, hfl1]; done)) ?_
      refine l_q rfl (q_move rfl rfl) rfl rfl ?_
      refine l_q rfl (q_indexV 0 rfl Try.underlying39 Try.sizeOf44 rfl (fun _ h => h.rd 2 rfl) rfl rfl (by omega)) rfl rfl ?_
      refine l_q rfl (q_fieldAddr rfl Try.underlying44 rfl Try.sizeOf3 rfl rfl) rfl rfl ?_
      refine l_q rfl (q_loadV 0 1 rfl Try.isAgg3 rfl rfl (fun _ h => h.rd 2 rfl) hf0 rfl) rfl rfl ?_
      refine l_q rfl (q_move rfl rfl) rfl rfl ?_
      refine l_q rfl (q_neq rfl rfl rfl) rfl rfl ?_
      refine l_q rfl (q_pick_f rfl rfl rfl) rfl rfl ?_
      refine l_q rfl (q_move rfl rfl) rfl rfl ?_
      refine Pre.setB (t := 106) (c := false) rfl (by first | rfl | (simp only [hl6]; done) | (simp [hl6, hfb, hfp, hfr, hfd, hfl1]; done)) ?_
      refine l_q rfl (q_move rfl rfl) rfl rfl ?_
      refine l_q rfl (q_indexV 0 rfl Try.underlying39 Try.sizeOf44 rfl (fun _ h => h.rd 2 rfl) rfl rfl (by omega)) rfl rfl ?_
      refine l_q rfl (q_fieldAddr rfl Try.underlying44 rfl Try.sizeOf3 rfl rfl) rfl rfl ?_
      refine l_q rfl (q_loadV 0 2 rfl Try.isAgg3 rfl rfl (fun _ h => h.rd 2 rfl) hf0 rfl) rfl rfl ?_
      refine l_q rfl (q_neq rfl rfl rfl) rfl rfl ?_
      refine l_q rfl (q_pick_f rfl rfl rfl) rfl rfl ?_
      refine l_q rfl (q_move rfl rfl) rfl rfl ?_
      refine Pre.setB (t := 113) (c := false) rfl (by first | rfl | (simp only [hl6]; done) | (simp [hl6, hfb, hfp, hfr, hfd, hfl1]; done)) ?_
      refine l_q rfl (q_move rfl rfl) rfl rfl ?_
      refine l_q rfl (q_indexV 0 rfl Try.underlying39 Try.sizeOf44 rfl (fun _ h => h.rd 2 rfl) rfl rfl (by omega)) rfl rfl ?_
      refine l_q rfl (q_fieldAddr rfl Try.underlying44 rfl Try.sizeOf4 rfl rfl) rfl rfl ?_
      refine l_q rfl (q_loadV 0 4 rfl Try.isAgg4 rfl rfl (fun _ h => h.rd 2 rfl) hf0 rfl) rfl rfl ?_
      refine l_q rfl (q_not rfl rfl) rfl rfl ?_
      refine l_q rfl (q_pick_f rfl rfl rfl) rfl rfl ?_
      refine l_q rfl (q_move rfl rfl) rfl rfl ?_
      refine Pre.setB (t := 120) (c := false) rfl (by first | rfl | (simp only [hl6]; done) | (simp [hl6, hfb, hfp, hfr, hfd, hfl1]; done)) ?_
      refine l_q rfl (q_move rfl rfl) rfl rfl ?_
      refine l_q rfl (q_indexV 0 rfl Try.underlying39 Try.sizeOf44 rfl (fun _ h => h.rd 2 rfl) rfl rfl (by omega)) rfl rfl ?_
      refine l_q rfl (q_fieldAddr rfl Try.underlying44 rfl Try.sizeOf4 rfl rfl) rfl rfl ?_
      refine l_q rfl (q_loadV 0 3 rfl Try.isAgg4 rfl rfl (fun _ h => h.rd 2 rfl) hf0 rfl) rfl rfl ?_
      refine l_q rfl (q_not rfl rfl) rfl rfl ?_
      refine l_q rfl (q_pick_f rfl rfl rfl) rfl rfl ?_
      refine l_q rfl (q_move rfl rfl) rfl rfl ?_
      refine Pre.setB (t := 127) (c := false) rfl (by simp [hfd, hfr]) ?_
      refine l_q rfl (q_move rfl rfl) rfl rfl ?_
      refine l_q rfl (q_indexV 0 rfl Try.underlying39 Try.sizeOf44 rfl (fun _ h => h.rd 2 rfl) rfl rfl (by omega)) rfl rfl ?_
      refine l_q rfl (q_fieldAddr rfl Try.underlying44 rfl Try.sizeOf37 rfl rfl) rfl rfl ?_
      refine l_q rfl (q_fieldAddr rfl Try.underlying37 rfl Try.sizeOf33 rfl rfl) rfl rfl ?_
      refine l_q rfl (q_loadV 0 6 rfl Try.isAgg33 rfl rfl (fun _ h => h.rd 2 rfl) hf0 rfl) rfl rfl ?_
      refine l_q rfl (q_lenV rfl Try.underlying33 rfl (fun _ h => Q.rd h (.inr (hn65 f hfm)) (fun _ he => List.mem_cons_of_mem _ (List.mem_cons_of_mem _ (List.mem_cons_of_mem _ (he)))))) rfl rfl ?_
      refine l_q rfl (q_neq rfl rfl rfl) rfl rfl ?_
      refine l_q rfl (q_pick_f rfl rfl rfl) rfl rfl ?_
      refine l_nil ?_
      refine k_then ?_
      refine Pre.setB (t := 135) (c := false) rfl (by first | rfl | (simp only [hl6]; done) | (simp [hl6, hfb, hfp, hfr, hfd, hfl1]; done)) ?_
      refine c_false rfl ?_
      refine c_skip ?_
      refine k_then ?_
      refine c_seq ?_
      refine c_region _ rfl ?_
      refine l_q rfl (q_move rfl rfl) rfl rfl ?_
      refine l_e rfl ?_
      refine e_callH [_, _, _] (qevict hk67) rfl rfl rfl Try.call20 rfl (fun _ _ => trivial) ?_
      rintro ⟨q68, en69⟩ ⟨hm70_, hg75, hk71, hi73, hx72⟩
      refine Pre.world (St _ _ (_ :: _ :: _ :: Q.H r36 q68)) (fun _ h => h) ?_
      dsimp only at hm70_ hk71 hi73 hx72 hg75
      rw [← hg75] at hi73
      have hm70 : q68.M = ((nm i a nv.leaf nv.l).evict.2) := by rw [hm70_, hm66]
      have he74 : q63.M.evict.1 = (some (nmV a nv.leaf nv.l)) := by rw [hm66]; exact nm_ev h1 h6 _ _ _
      rw [he74] at hx72
      refine Pre.setV (t := 138) (c := evV (some (nmV a nv.leaf nv.l)) en69) rfl (by rw [he74]) ?_
      refine l_q rfl (q_move rfl rfl) rfl rfl ?_
      refine l_q rfl (q_extract rfl rfl rfl) rfl rfl ?_
      refine l_q rfl (q_extract rfl rfl rfl) rfl rfl ?_
      refine l_q rfl (q_extract rfl rfl rfl) rfl rfl ?_
      refine l_q rfl (q_extract rfl rfl rfl) rfl rfl ?_
      refine l_e rfl ?_
      refine e_alloc rfl rfl rfl Try.zeroValue37 ?_
      intro bz
      refine cells_eq (show _ = nv0.c from rfl) ?_
      refine l_q rfl (q_assign rfl rfl) rfl rfl ?_
      refine l_e rfl ?_
      refine e_storeAgg rfl rfl Try.sizeOf37 rfl rfl rfl (NV.one _) (by show 0 + 5 ≤ 5; decide) ?_
      refine cells_eq (show Sep.splice _ 0 (en69).c = (en69).c from Sep.splice_all rfl) ?_
      refine l_q rfl (q_assign rfl rfl) rfl rfl ?_
      refine l_q rfl (q_assign rfl rfl) rfl rfl ?_
      refine l_nil ?_
      refine k_then ?_
      refine c_seq ?_
      refine c_region _ rfl ?_
      refine l_q rfl (q_move rfl rfl) rfl rfl ?_
      refine l_q rfl (q_move rfl rfl) rfl rfl ?_
      have hen : en69.l.length = 1 := by rw [(hx72 _ rfl).2]; show nv.l.length = 1; rw [hle]; rfl
      refine Pre.setB (t := 144) (c := true) rfl (by first | rfl | exact decide_eq_true (by rw [hen]; rfl) | (simp [nmV, hen]; done)) ?_
      refine l_q rfl (q_move rfl rfl) rfl rfl ?_
      refine l_q rfl (q_move rfl rfl) rfl rfl ?_
      refine l_q rfl (q_eql rfl rfl rfl) rfl rfl ?_
      refine l_q rfl (q_pick_t rfl rfl rfl) rfl rfl ?_
      refine l_q rfl (q_move rfl rfl) rfl rfl ?_
      refine Pre.setB (t := 149) (c := true) rfl (by first | rfl | exact decide_eq_true (by rw [hen]; rfl) | (simp [nmV, hen]; done)) ?_
      refine l_q rfl (q_move rfl rfl) rfl rfl ?_
      refine l_q rfl (q_pick_t rfl rfl rfl) rfl rfl ?_
      refine l_q rfl (q_move rfl rfl) rfl rfl ?_
      refine Pre.setB (t := 152) (c := true) rfl (by first | rfl | exact decide_eq_true (by rw [hen]; rfl) | (simp [nmV, hen]; done)) ?_
      refine l_q rfl (q_fieldAddr rfl Try.underlying37 rfl Try.sizeOf33 rfl rfl) rfl rfl ?_
      refine l_q rfl (q_loadC rfl Try.isAgg33 rfl (fun _ h => h.at 0 rfl) rfl) rfl rfl ?_
      refine l_q rfl (q_lenV rfl Try.underlying33 rfl (fun _ h => Q.rd h (hi73) (fun _ he => List.mem_cons_of_mem _ (List.mem_cons_of_mem _ (List.mem_cons_of_mem _ (List.mem_cons_of_mem _ (he))))))) rfl rfl ?_
      refine l_q rfl (q_eql rfl rfl rfl) rfl rfl ?_
      refine l_q rfl (q_pick_t rfl rfl rfl) rfl rfl ?_
      refine l_q rfl (q_move rfl rfl) rfl rfl ?_
      refine Pre.setB (t := 158) (c := true) rfl (by first | rfl | exact decide_eq_true (by rw [hen]; rfl) | (simp [nmV, hen]; done)) ?_
      refine l_q rfl (q_move rfl rfl) rfl rfl ?_
      refine l_e rfl ?_
      refine e_callH [_, _, _, _] (qgive hk71 (3)) rfl rfl rfl Try.call24 rfl (fun _ _ => trivial) ?_
      rintro q76 ⟨hm77_, _, hk78⟩
      refine Pre.world (St _ _ (_ :: _ :: _ :: _ :: Q.H r36 q76)) (fun _ h => h) ?_
      have hm77 : q76.M = ((nm i a nv.leaf nv.l).evict.2.give 3) := by rw [hm77_, hm70]
      refine Pre.setV (t := 160) (c := .int .i64 ((i : Int) - 1)) rfl (by rw [hm70]; exact congrArg _ (nm_cl h1 h6 _ _ _)) ?_
      refine l_q rfl (q_move rfl rfl) rfl rfl ?_
      refine l_q rfl (q_sub64 rfl rfl rfl (by omega)) rfl rfl ?_
      refine l_q rfl (q_eql rfl rfl rfl) rfl rfl ?_
      refine l_q rfl (q_pick_t rfl rfl rfl) rfl rfl ?_
      refine l_q rfl (q_move rfl rfl) rfl rfl ?_
      refine Pre.setB (t := 165) (c := true) rfl (by first | rfl | exact decide_eq_true (by rw [hen]; rfl) | (simp [nmV, hen]; done)) ?_
      refine l_e rfl ?_
      refine e_call_00 (awake_spec) rfl rfl rfl Try.call15 rfl (fun _ _ => trivial) ?_
      intro _ _
      refine l_q rfl (q_pick_t rfl rfl rfl) rfl rfl ?_
      refine l_q rfl (q_assign rfl rfl) rfl rfl ?_
      refine l_nil ?_
      refine k_then ?_
      refine c_ret ?_
      refine r_one rfl rfl ?_
      exact fun _ h => ⟨(), rfl, trivial, h.nothing⟩
theorem cacheNames_walk (w : World) (a0 : Int) (w0 : (Lit.int .u8 a0).wf = true) (a1 : Bool) (a2 : Int) (w2 : (Lit.int .i64 a2).wf = true) :
    Calls Try.prog 6 #[.int .u8 a0, .bool a1, .int .i64 a2] w fun e w' => e = .returned (.bool true) ∧ Below w.heap.size w w' :=
  con_walk (names_spec a0 w0 a1 a2) trivial
end Go.Proofs.Ytpfbagkjhchojaa
