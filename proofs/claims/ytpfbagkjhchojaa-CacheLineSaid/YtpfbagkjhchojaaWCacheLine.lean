/- CacheLine, walked -/
import Derived.Test.YtpfbagkjhchojaaWq
import Derived.Test.YtpfbagkjhchojaaS9
set_option linter.unusedVariables false
set_option linter.unusedSimpArgs false
namespace Go.Proofs.Ytpfbagkjhchojaa
open Go.Sep Go.RowKit

set_option maxRecDepth 100000 in
set_option maxHeartbeats 1000000 in
theorem line_law {va : Value} (n : Int) (hn : (Lit.int .u8 n).wf = true) (l : List Bool) : Con Try.prog 5 [.int .u8 n, va] (fun w => RdV w va encB l) [] (fun _ : Unit => .bool true) (fun _ => True) (fun _ => []) := by
  intro w hl hH
  obtain ⟨hn0, hn1⟩ := wf_u8 hn
  refine enter (n := 186) (vs := [.int .u8 n, va]) (St w [] []) Try.func5 rfl rfl rfl (St.init hH) ?_
  refine c_seq ?_
  refine c_region _ rfl ?_
  refine l_q rfl (q_assign rfl rfl) rfl rfl ?_
  refine l_nil ?_
  refine k_then ?_
  refine c_seq ?_
  refine c_region _ rfl ?_
  refine l_e rfl ?_
  refine e_callH [] (HA := []) (qnew 2 (by decide) (by decide)) rfl rfl rfl Try.call9 rfl (fun _ _ => trivial) ?_
  rintro ⟨r36, r36_⟩ ⟨hm37, hg38, hk39⟩
  dsimp only at hm37 hg38 hk39
  refine Pre.world (St _ _ (Q.H r36 r36_)) (fun _ h => h) ?_
  refine l_q rfl (q_move rfl rfl) rfl rfl ?_
  refine l_q rfl (q_extract rfl rfl rfl) rfl rfl ?_
  refine l_q rfl (q_extract rfl rfl rfl) rfl rfl ?_
  refine l_q rfl (q_assign rfl rfl) rfl rfl ?_
  refine l_q rfl (q_assign rfl rfl) rfl rfl ?_
  refine l_nil ?_
  refine k_then ?_
  refine c_seq ?_
  refine c_seq ?_
  refine c_region _ rfl ?_
  refine l_q rfl (q_move rfl rfl) rfl rfl ?_
  refine l_q rfl (q_neq rfl rfl rfl) rfl rfl ?_
  refine l_q rfl (q_move rfl rfl) rfl rfl ?_
  obtain ⟨k, hk, h1, h5⟩ : ∃ k : Nat, 1 + n % 5 = (k : Int) ∧ 1 ≤ k ∧ k ≤ 5 := ⟨(1 + n % 5).toNat, by omega, by omega, by omega⟩
  refine Pre.setB (t := 20) (c := false) rfl (rfl) ?_
  refine l_q rfl (q_move rfl rfl) rfl rfl ?_
  refine l_q rfl (q_eqp rfl Try.underlying23 rfl rfl) rfl rfl ?_
  refine l_q rfl (q_pick_f rfl rfl rfl) rfl rfl ?_
  refine l_nil ?_
  refine k_then ?_
  refine Pre.setB (t := 23) (c := false) rfl (rfl) ?_
  refine c_false rfl ?_
  refine c_skip ?_
  refine k_then ?_
  refine c_seq ?_
  refine c_region _ rfl ?_
  refine l_q rfl (q_move rfl rfl) rfl rfl ?_
  refine l_q rfl (q_rem_nn rfl rfl rfl (by omega) (by omega)) rfl rfl ?_
  refine l_q rfl (q_conv_in rfl Try.underlying5 Try.underlying3 rfl (by first | rfl | (simp only [IntKind.wrap]; omega) | exact wrap64_in (by omega))) rfl rfl ?_
  refine l_q rfl (q_add64 rfl rfl rfl (by omega)) rfl rfl ?_
  refine l_q rfl (q_assign rfl rfl) rfl rfl ?_
  refine l_nil ?_
  refine k_then ?_
  refine c_seq ?_
  refine c_seq ?_
  refine c_region _ rfl ?_
  refine l_q rfl (q_move rfl rfl) rfl rfl ?_
  refine Pre.setV (t := 7) (c := .int .i64 (k : Int)) rfl (by rw [hk]) ?_
  refine l_e rfl ?_
  refine e_callH [] (qpin hk39 (by omega) (7) (100) (i64_in (by decide) (by decide))) rfl rfl rfl Try.call12 rfl (fun _ _ => trivial) ?_
  rintro q40 ⟨hm41_, _, hk42⟩
  refine Pre.world (St _ _ (Q.H r36 q40)) (fun _ h => h) ?_
  have hm41 : q40.M = ((mo0 2).pin 7 100).2 := by rw [hm41_, hm37]
  refine Pre.setV (t := 29) (c := .int .i64 3) rfl (by rw [hm37]; exact congrArg _ (by decide +kernel)) ?_
  refine l_q rfl (q_neq rfl rfl rfl) rfl rfl ?_
  refine l_q rfl (q_move rfl rfl) rfl rfl ?_
  refine Pre.setB (t := 31) (c := false) rfl (rfl) ?_
  refine l_q rfl (q_move rfl rfl) rfl rfl ?_
  refine l_e rfl ?_
  refine e_callH [] (qclaim hk42 (by omega) (7)) rfl rfl rfl Try.call22 rfl (fun _ _ => trivial) ?_
  rintro q43 ⟨hm44_, _, hk45⟩
  refine Pre.world (St _ _ (Q.H r36 q43)) (fun _ h => h) ?_
  have hm44 : q43.M = (((mo0 2).pin 7 100).2.claim 7).2 := by rw [hm44_, hm41]
  refine Pre.setV (t := 33) (c := .bool true) rfl (by rw [hm41]; exact congrArg _ (by decide +kernel)) ?_
  refine l_q rfl (q_not rfl rfl) rfl rfl ?_
  refine l_q rfl (q_pick_f rfl rfl rfl) rfl rfl ?_
  refine l_nil ?_
  refine k_then ?_
  refine Pre.setB (t := 35) (c := false) rfl (rfl) ?_
  refine c_false rfl ?_
  refine c_skip ?_
  refine k_then ?_
  refine c_seq ?_
  refine c_region _ rfl ?_
  refine l_q rfl (q_move rfl rfl) rfl rfl ?_
  refine l_q rfl (q_build (nvL.c) rfl rfl (fun w => by kernel_rfl)) rfl rfl ?_
  refine row0 121 En.enc none ?_
  refine Pre.world (St _ _ (nrow nvL :: _)) (fun _ h => h) ?_
  refine l_e rfl ?_
  refine e_callH [] (qfill hk45 nvL (by show 0 ≤ 1000; decide) 100) rfl rfl rfl Try.call14 rfl (fun _ _ => trivial) ?_
  rintro ⟨q46, v47⟩ ⟨hm48_, _, hk49⟩
  refine Pre.world (St _ _ (rowE v47 3 (encI .i64) (q43.M.fill 100 nvL.leaf nvL.l).1.1 :: nrow nvL :: Q.H r36 q46)) (fun _ h => h) ?_
  dsimp only at hm48_ hk49
  have hm48 : q46.M = ln0 := by rw [hm48_, hm44]; rfl
  have ht50 : (q43.M.fill 100 nvL.leaf nvL.l).1 = ([], true) := by rw [hm44]; rfl
  refine row_eq (show _ = [] from congrArg Prod.fst ht50) ?_
  refine Pre.setV (t := 38) (c := .tuple #[v47, .bool true]) rfl (by rw [congrArg Prod.snd ht50]) ?_
  refine l_nil ?_
  refine k_then ?_
  refine c_seq ?_
  refine c_seq ?_
  refine c_region _ rfl ?_
  refine l_q rfl (q_assign rfl rfl) rfl rfl ?_
  refine l_nil ?_
  refine k_then ?_
  refine c_block ?_
  refine drop0 ?_
  refine drop0 ?_
  refine c_loop2 (fun (i : Nat) (q : Q) => [(1, va), (5, .pointer (some ⟨r36, 0, none⟩)), (7, .int .i64 (k : Int)), (8, .int .i64 (i : Int))]) (fun (i : Nat) (q : Q) => St w [] (Q.H r36 q)) (fun (i : Nat) (q : Q) => i ≤ k ∧ q.M = lnA (bitsOf l) i ∧ q.Ok (2 + i)) (fun (i : Nat) (q : Q) => k - i) (0) (q46) ⟨Nat.zero_le _, hm48, hk49⟩ (Sub.cons rfl (Sub.cons rfl (Sub.cons rfl (Sub.cons rfl (Sub.nil))))) (fun _ h => h) ?_
  intro i q hp
  refine c_seq ?_
  refine c_seq ?_
  obtain ⟨hi, hqM, hqk⟩ := hp
  refine c_region _ rfl ?_
  refine l_q rfl (q_move rfl rfl) rfl rfl ?_
  refine l_q rfl (q_move rfl rfl) rfl rfl ?_
  refine l_q rfl (q_lss rfl rfl rfl) rfl rfl ?_
  refine l_nil ?_
  refine k_then ?_
  refine Pre.caseB 41 rfl (fun h1i => ?_) (fun h1i => ?_)
  · try simp only [decide_eq_true_eq, decide_eq_false_iff_not, Bool.not_eq_true', Bool.not_eq_false'] at h1i
    have hi5 : i < 5 := by omega
    rcases cur_cases l (i := i) with hx | hx | hx
    · refine c_true rfl ?_
      refine c_skip ?_
      refine k_then ?_
      refine c_seq ?_
      refine c_block ?_
      refine c_seq ?_
      refine c_region _ rfl ?_
      refine l_q rfl (q_move rfl rfl) rfl rfl ?_
      refine l_q rfl (q_move rfl rfl) rfl rfl ?_
      refine l_q rfl (q_lenV rfl Try.underlying49 rfl (fun _ h => hl.keep h (by simp [dom]))) rfl rfl ?_
      refine l_q rfl (q_lss rfl rfl rfl) rfl rfl ?_
      refine l_q rfl (q_move rfl rfl) rfl rfl ?_
      refine Pre.setB (t := 48) (c := false) rfl (decide_eq_false (by omega)) ?_
      refine l_not rfl rfl rfl ?_
      refine l_not rfl rfl rfl ?_
      refine l_not rfl rfl rfl ?_
      refine l_not rfl rfl rfl ?_
      refine l_q rfl (q_pick_f rfl rfl rfl) rfl rfl ?_
      refine l_nil ?_
      refine k_then ?_
      refine c_false rfl ?_
      refine c_seq ?_
      refine c_region _ rfl ?_
      refine l_q rfl (q_move rfl rfl) rfl rfl ?_
      refine l_q rfl (q_move rfl rfl) rfl rfl ?_
      refine l_q rfl (q_move rfl rfl) rfl rfl ?_
      refine l_q rfl (q_add64 rfl rfl rfl (by omega)) rfl rfl ?_
      have hc := bits_out hi5 hx
      refine l_e rfl ?_
      refine e_callH [] (qpin hqk (by omega) ((i : Int)) (10 + (i : Int)) (i64_in (by omega) (by omega))) rfl rfl rfl Try.call12 rfl (fun _ _ => trivial) ?_
      rintro q51 ⟨hm52_, _, hk53⟩
      refine Pre.world (St _ _ (Q.H r36 q51)) (fun _ h => h) ?_
      have hm52 : q51.M = (lnA (bitsOf l) (i + 1)) := by rw [hm52_, hqM]; exact lnA_no hc
      refine Pre.setV (t := 61) (c := .int .i64 4) rfl (by rw [hqM]; exact congrArg _ (lnA_pin hi5 hc)) ?_
      refine l_q rfl (q_neq rfl rfl rfl) rfl rfl ?_
      refine l_nil ?_
      refine k_then ?_
      refine Pre.setB (t := 62) (c := false) rfl (rfl) ?_
      refine c_false rfl ?_
      refine c_skip ?_
      refine k_block ?_
      refine k_then ?_
      refine c_region _ rfl ?_
      refine l_q rfl (q_move rfl rfl) rfl rfl ?_
      refine l_q rfl (q_inc rfl rfl rfl (by omega)) rfl rfl ?_
      refine l_q rfl (q_assign rfl rfl) rfl rfl ?_
      refine l_nil ?_
      exact k_round ((i + 1, q51)) (by dsimp only; omega) ⟨by dsimp only; omega, hm52, hk53⟩ (Sub.cons rfl (Sub.cons rfl (Sub.cons rfl (Sub.cons rfl (Sub.nil))))) (fun _ h => h)
    · have hil := get_lt hx
      refine c_true rfl ?_
      refine c_skip ?_
      refine k_then ?_
      refine c_seq ?_
      refine c_block ?_
      refine c_seq ?_
      refine c_region _ rfl ?_
      refine l_q rfl (q_move rfl rfl) rfl rfl ?_
      refine l_q rfl (q_move rfl rfl) rfl rfl ?_
      refine l_q rfl (q_lenV rfl Try.underlying49 rfl (fun _ h => hl.keep h (by simp [dom]))) rfl rfl ?_
      refine l_q rfl (q_lss rfl rfl rfl) rfl rfl ?_
      refine l_q rfl (q_move rfl rfl) rfl rfl ?_
      refine Pre.setB (t := 48) (c := true) rfl (decide_eq_true (by omega)) ?_
      refine l_q rfl (q_move rfl rfl) rfl rfl ?_
      refine l_q rfl (q_move rfl rfl) rfl rfl ?_
      refine l_q rfl (q_indexV i rfl Try.underlying49 Try.sizeOf4 rfl (fun _ h => hl.keep h (by simp [dom])) rfl rfl (by omega)) rfl rfl ?_
      refine l_q rfl (q_loadV i 0 rfl Try.isAgg4 rfl rfl (fun _ h => hl.keep h (by simp [dom])) hx rfl) rfl rfl ?_
      refine l_q rfl (q_pick_t rfl rfl rfl) rfl rfl ?_
      refine l_nil ?_
      refine k_then ?_
      refine Pre.setB (t := 53) (c := false) rfl (rfl) ?_
      refine c_false rfl ?_
      refine c_seq ?_
      refine c_region _ rfl ?_
      refine l_q rfl (q_move rfl rfl) rfl rfl ?_
      refine l_q rfl (q_move rfl rfl) rfl rfl ?_
      refine l_q rfl (q_move rfl rfl) rfl rfl ?_
      refine l_q rfl (q_add64 rfl rfl rfl (by omega)) rfl rfl ?_
      have hc := bits_in hi5 hx
      refine l_e rfl ?_
      refine e_callH [] (qpin hqk (by omega) ((i : Int)) (10 + (i : Int)) (i64_in (by omega) (by omega))) rfl rfl rfl Try.call12 rfl (fun _ _ => trivial) ?_
      rintro q54 ⟨hm55_, _, hk56⟩
      refine Pre.world (St _ _ (Q.H r36 q54)) (fun _ h => h) ?_
      have hm55 : q54.M = (lnA (bitsOf l) (i + 1)) := by rw [hm55_, hqM]; exact lnA_no hc
      refine Pre.setV (t := 61) (c := .int .i64 4) rfl (by rw [hqM]; exact congrArg _ (lnA_pin hi5 hc)) ?_
      refine l_q rfl (q_neq rfl rfl rfl) rfl rfl ?_
      refine l_nil ?_
      refine k_then ?_
      refine Pre.setB (t := 62) (c := false) rfl (rfl) ?_
      refine c_false rfl ?_
      refine c_skip ?_
      refine k_block ?_
      refine k_then ?_
      refine c_region _ rfl ?_
      refine l_q rfl (q_move rfl rfl) rfl rfl ?_
      refine l_q rfl (q_inc rfl rfl rfl (by omega)) rfl rfl ?_
      refine l_q rfl (q_assign rfl rfl) rfl rfl ?_
      refine l_nil ?_
      exact k_round ((i + 1, q54)) (by dsimp only; omega) ⟨by dsimp only; omega, hm55, hk56⟩ (Sub.cons rfl (Sub.cons rfl (Sub.cons rfl (Sub.cons rfl (Sub.nil))))) (fun _ h => h)
    · have hil := get_lt hx
      refine c_true rfl ?_
      refine c_skip ?_
      refine k_then ?_
      refine c_seq ?_
      refine c_block ?_
      refine c_seq ?_
      refine c_region _ rfl ?_
      refine l_q rfl (q_move rfl rfl) rfl rfl ?_
      refine l_q rfl (q_move rfl rfl) rfl rfl ?_
      refine l_q rfl (q_lenV rfl Try.underlying49 rfl (fun _ h => hl.keep h (by simp [dom]))) rfl rfl ?_
      refine l_q rfl (q_lss rfl rfl rfl) rfl rfl ?_
      refine l_q rfl (q_move rfl rfl) rfl rfl ?_
      refine Pre.setB (t := 48) (c := true) rfl (decide_eq_true (by omega)) ?_
      refine l_q rfl (q_move rfl rfl) rfl rfl ?_
      refine l_q rfl (q_move rfl rfl) rfl rfl ?_
      refine l_q rfl (q_indexV i rfl Try.underlying49 Try.sizeOf4 rfl (fun _ h => hl.keep h (by simp [dom])) rfl rfl (by omega)) rfl rfl ?_
      refine l_q rfl (q_loadV i 0 rfl Try.isAgg4 rfl rfl (fun _ h => hl.keep h (by simp [dom])) hx rfl) rfl rfl ?_
      refine l_q rfl (q_pick_t rfl rfl rfl) rfl rfl ?_
      refine l_nil ?_
      refine k_then ?_
      refine Pre.setB (t := 53) (c := true) rfl (rfl) ?_
      refine c_true rfl ?_
      refine c_seq ?_
      refine c_region _ rfl ?_
      refine l_q rfl (q_move rfl rfl) rfl rfl ?_
      refine l_q rfl (q_move rfl rfl) rfl rfl ?_
      have hc := bits_in hi5 hx
      refine l_e rfl ?_
      refine e_callH [] (qclaim hqk (by omega) ((i : Int))) rfl rfl rfl Try.call22 rfl (fun _ _ => trivial) ?_
      rintro q57 ⟨hm58_, _, hk59⟩
      refine Pre.world (St _ _ (Q.H r36 q57)) (fun _ h => h) ?_
      have hm58 : q57.M = (lnA (bitsOf l) (i + 1)) := by rw [hm58_, hqM]; exact lnA_yes hc
      refine Pre.setV (t := 56) (c := .bool false) rfl (by rw [hqM]; exact congrArg _ (lnA_claim hi5 hc)) ?_
      refine l_nil ?_
      refine k_then ?_
      refine Pre.setB (t := 56) (c := false) rfl (rfl) ?_
      refine c_false rfl ?_
      refine c_skip ?_
      refine k_block ?_
      refine k_then ?_
      refine c_region _ rfl ?_
      refine l_q rfl (q_move rfl rfl) rfl rfl ?_
      refine l_q rfl (q_inc rfl rfl rfl (by omega)) rfl rfl ?_
      refine l_q rfl (q_assign rfl rfl) rfl rfl ?_
      refine l_nil ?_
      exact k_round ((i + 1, q57)) (by dsimp only; omega) ⟨by dsimp only; omega, hm58, hk59⟩ (Sub.cons rfl (Sub.cons rfl (Sub.cons rfl (Sub.cons rfl (Sub.nil))))) (fun _ h => h)
  · try simp only [decide_eq_true_eq, decide_eq_false_iff_not, Bool.not_eq_true', Bool.not_eq_false'] at h1i
    have hik : i = k := by omega
    subst hik
    obtain ⟨hk1, hk2, hk3⟩ := lK1 (l := l) h1 h5
    refine c_false rfl ?_
    refine c_exit ?_
    refine k_then_exit ?_
    refine k_then_exit ?_
    refine k_block_exit ?_
    refine k_then ?_
    refine c_seq ?_
    refine c_seq ?_
    refine c_region _ rfl ?_
    refine l_q rfl (q_move rfl rfl) rfl rfl ?_
    refine l_e rfl ?_
    refine e_callH [] (qline hqk) rfl rfl rfl Try.call23 rfl (fun _ _ => trivial) ?_
    rintro v60 _
    refine Pre.world (St _ _ (_ :: Q.H r36 q)) (fun _ h => h) ?_
    refine row_eq (show _ = ((lnA (bitsOf l) i).line.map Prod.fst) from by rw [hqM]; try rfl) ?_
    refine l_q rfl (q_lenV rfl Try.underlying28 rfl (fun _ h => h.rd 0 rfl)) rfl rfl ?_
    refine l_q rfl (q_move rfl rfl) rfl rfl ?_
    refine l_q rfl (q_neq rfl rfl rfl) rfl rfl ?_
    refine l_q rfl (q_move rfl rfl) rfl rfl ?_
    have hll : ((lnA (bitsOf l) i).line.map Prod.fst).length = i := by rw [List.length_map]; exact hk1
    refine Pre.setB (t := 68) (c := false) rfl (by simp [hk1]) ?_
    refine l_q rfl (q_move rfl rfl) rfl rfl ?_
    refine l_e rfl ?_
    refine e_callH [_] (qunpin hqk (100)) rfl rfl rfl Try.call19 rfl (fun _ _ => trivial) ?_
    rintro q61 ⟨hm62_, _, hk63⟩
    refine Pre.world (St _ _ (_ :: Q.H r36 q61)) (fun _ h => h) ?_
    have hm62 : q61.M = (lnB (bitsOf l) i 0) := by rw [hm62_, hqM]; rfl
    refine Pre.setV (t := 70) (c := .bool true) rfl (by rw [hqM]; exact congrArg _ hk2) ?_
    refine l_q rfl (q_not rfl rfl) rfl rfl ?_
    refine l_q rfl (q_pick_f rfl rfl rfl) rfl rfl ?_
    refine l_nil ?_
    refine k_then ?_
    refine Pre.setB (t := 72) (c := false) rfl (rfl) ?_
    refine c_false rfl ?_
    refine c_skip ?_
    refine k_then ?_
    refine c_seq ?_
    refine c_seq ?_
    refine c_region _ rfl ?_
    refine l_q rfl (q_assign rfl rfl) rfl rfl ?_
    refine l_nil ?_
    refine k_then ?_
    refine c_block ?_
    refine drop0 ?_
    obtain ⟨k, hkk⟩ : ∃ k, k = i := ⟨_, rfl⟩
    rw [← hkk] at hm62 hk63 h1 h5 hk3 ⊢
    clear hkk
    refine c_loop2 (fun (i : Nat) (q : Q) => [(1, va), (5, .pointer (some ⟨r36, 0, none⟩)), (7, .int .i64 (k : Int)), (9, .int .i64 (i : Int))]) (fun (i : Nat) (q : Q) => St w [] (Q.H r36 q)) (fun (i : Nat) (q : Q) => i ≤ k ∧ q.M = lnB (bitsOf l) k i ∧ q.Ok (2 + k + 2 * i)) (fun (i : Nat) (q : Q) => k - i) (0) (q61) ⟨Nat.zero_le _, hm62, hk63⟩ (Sub.cons rfl (Sub.cons rfl (Sub.cons rfl (Sub.cons rfl (Sub.nil))))) (fun _ h => h) ?_
    intro i q hp
    refine c_seq ?_
    refine c_seq ?_
    obtain ⟨hi, hqM, hqk⟩ := hp
    refine c_region _ rfl ?_
    refine l_q rfl (q_move rfl rfl) rfl rfl ?_
    refine l_q rfl (q_move rfl rfl) rfl rfl ?_
    refine l_q rfl (q_lss rfl rfl rfl) rfl rfl ?_
    refine l_nil ?_
    refine k_then ?_
    refine Pre.caseB 75 rfl (fun h2i => ?_) (fun h2i => ?_)
    · try simp only [decide_eq_true_eq, decide_eq_false_iff_not, Bool.not_eq_true', Bool.not_eq_false'] at h2i
      obtain ⟨x1, x2, x3, x4, x5, x6, x7⟩ := lB1 (l := l) (k := k) (t := i) h5 (by omega)
      rcases prev_cases l (i := i) with h0 | ⟨j, hij, hj⟩ | ⟨j, hij, hj⟩ | ⟨j, hij, hj⟩
      · have hF : ¬ (0 < i ∧ (bitsOf l) (i - 1) = false) := by omega
        have hG : ¬ (0 < i ∧ (bitsOf l) (i - 1) = true) := by omega
        refine c_true rfl ?_
        refine c_skip ?_
        refine k_then ?_
        refine c_seq ?_
        refine c_block ?_
        refine c_seq ?_
        refine c_seq ?_
        refine c_region _ rfl ?_
        refine l_q rfl (q_move rfl rfl) rfl rfl ?_
        refine l_q rfl (q_gtr rfl rfl rfl) rfl rfl ?_
        refine l_q rfl (q_move rfl rfl) rfl rfl ?_
        refine Pre.setB (t := 80) (c := false) rfl (by first | exact decide_eq_true (by omega) | exact decide_eq_false (by omega)) ?_
        refine l_not rfl rfl rfl ?_
        refine l_not rfl rfl rfl ?_
        refine l_not rfl rfl rfl ?_
        refine l_not rfl rfl rfl ?_
        refine l_not rfl rfl rfl ?_
        refine l_not rfl rfl rfl ?_
        refine l_not rfl rfl rfl ?_
        refine l_not rfl rfl rfl ?_
        refine l_not rfl rfl rfl ?_
        refine l_not rfl rfl rfl ?_
        refine l_not rfl rfl rfl ?_
        refine l_not rfl rfl rfl ?_
        refine l_not rfl rfl rfl ?_
        refine l_q rfl (q_pick_f rfl rfl rfl) rfl rfl ?_
        refine l_nil ?_
        refine k_then ?_
        refine c_false rfl ?_
        refine c_skip ?_
        refine k_then ?_
        refine c_seq ?_
        refine c_seq ?_
        refine c_region _ rfl ?_
        refine l_q rfl (q_move rfl rfl) rfl rfl ?_
        refine l_q rfl (q_gtr rfl rfl rfl) rfl rfl ?_
        refine l_q rfl (q_move rfl rfl) rfl rfl ?_
        refine Pre.setB (t := 106) (c := false) rfl (by first | exact decide_eq_true (by omega) | exact decide_eq_false (by omega)) ?_
        refine l_not rfl rfl rfl ?_
        refine l_not rfl rfl rfl ?_
        refine l_not rfl rfl rfl ?_
        refine l_not rfl rfl rfl ?_
        refine l_not rfl rfl rfl ?_
        refine l_q rfl (q_pick_f rfl rfl rfl) rfl rfl ?_
        refine l_q rfl (q_move rfl rfl) rfl rfl ?_
        refine l_not rfl rfl rfl ?_
        refine l_not rfl rfl rfl ?_
        refine l_not rfl rfl rfl ?_
        refine l_not rfl rfl rfl ?_
        refine l_not rfl rfl rfl ?_
        refine l_q rfl (q_pick_f rfl rfl rfl) rfl rfl ?_
        refine l_nil ?_
        refine k_then ?_
        refine c_false rfl ?_
        refine c_seq ?_
        refine c_region _ rfl ?_
        refine l_q rfl (q_move rfl rfl) rfl rfl ?_
        have hqF : q.M = lnF (bitsOf l) i (lnB (bitsOf l) k i) := by rw [hqM, lnF_no hF]
        obtain ⟨y, hy⟩ := x1 hG
        refine l_e rfl ?_
        refine e_callH [] (qevict hqk) rfl rfl rfl Try.call20 rfl (fun _ _ => trivial) ?_
        rintro ⟨q64, en65⟩ ⟨hm66_, hg71, hk67, hi69, hx68⟩
        refine Pre.world (St _ _ (Q.H r36 q64)) (fun _ h => h) ?_
        dsimp only at hm66_ hk67 hi69 hx68 hg71
        rw [← hg71] at hi69
        have hm66 : q64.M = (lnM (bitsOf l) k i) := by rw [hm66_, hqF]; exact lnM_ev hG
        have he70 : q.M.evict.1 = (some y) := by rw [hqF]; exact hy
        rw [he70] at hx68
        refine Pre.setV (t := 126) (c := evV (some y) en65) rfl (by rw [he70]) ?_
        refine l_q rfl (q_move rfl rfl) rfl rfl ?_
        refine l_q rfl (q_extract rfl rfl rfl) rfl rfl ?_
        refine l_q rfl (q_extract rfl rfl rfl) rfl rfl ?_
        refine l_q rfl (q_extract rfl rfl rfl) rfl rfl ?_
        refine l_q rfl (q_extract rfl rfl rfl) rfl rfl ?_
        refine l_e rfl ?_
        refine e_alloc rfl rfl rfl Try.zeroValue37 ?_
        intro bz
        refine cells_eq (show _ = nv0.c from rfl) ?_
        refine l_q rfl (q_assign rfl rfl) rfl rfl ?_
        refine l_e rfl ?_
        refine e_storeAgg rfl rfl Try.sizeOf37 rfl rfl rfl (NV.one _) (by show 0 + 5 ≤ 5; decide) ?_
        refine cells_eq (show Sep.splice _ 0 (en65).c = (en65).c from Sep.splice_all rfl) ?_
        refine l_q rfl (q_assign rfl rfl) rfl rfl ?_
        refine l_q rfl (q_assign rfl rfl) rfl rfl ?_
        refine l_nil ?_
        refine k_then ?_
        refine c_seq ?_
        refine c_region _ rfl ?_
        refine l_q rfl (q_move rfl rfl) rfl rfl ?_
        refine l_q rfl (q_not rfl rfl) rfl rfl ?_
        refine l_nil ?_
        refine k_then ?_
        refine Pre.setB (t := 132) (c := false) rfl (rfl) ?_
        refine c_false rfl ?_
        refine c_skip ?_
        refine k_then ?_
        refine c_seq ?_
        refine c_seq ?_
        refine c_region _ rfl ?_
        refine l_q rfl (q_move rfl rfl) rfl rfl ?_
        refine drop0 ?_
        refine l_e rfl ?_
        refine e_callH [] (qfree hk67 ) rfl rfl rfl Try.call18 rfl (fun _ _ => trivial) ?_
        rintro _ _
        refine Pre.world (St _ _ (Q.H r36 q64)) (fun _ h => h) ?_
        refine Pre.setV (t := 134) (c := .int .i64 1) rfl (by rw [hm66]; exact congrArg _ (congrArg _ x2)) ?_
        refine l_q rfl (q_neq rfl rfl rfl) rfl rfl ?_
        refine l_q rfl (q_move rfl rfl) rfl rfl ?_
        refine Pre.setB (t := 136) (c := false) rfl (rfl) ?_
        refine l_q rfl (q_move rfl rfl) rfl rfl ?_
        refine l_q rfl (q_move rfl rfl) rfl rfl ?_
        refine l_e rfl ?_
        refine e_callH [] (qmay hk67 (i : Int)) rfl rfl rfl Try.call13 rfl (fun _ _ => trivial) ?_
        rintro _ _
        refine Pre.world (St _ _ (Q.H r36 q64)) (fun _ h => h) ?_
        refine Pre.setV (t := 139) (c := .bool true) rfl (by rw [hm66]; exact congrArg _ x3) ?_
        refine l_q rfl (q_not rfl rfl) rfl rfl ?_
        refine l_q rfl (q_pick_f rfl rfl rfl) rfl rfl ?_
        refine l_q rfl (q_move rfl rfl) rfl rfl ?_
        refine Pre.setB (t := 142) (c := false) rfl (rfl) ?_
        refine l_q rfl (q_move rfl rfl) rfl rfl ?_
        refine l_q rfl (q_inc rfl rfl rfl (by omega)) rfl rfl ?_
        refine l_q rfl (q_move rfl rfl) rfl rfl ?_
        refine l_q rfl (q_lss rfl rfl rfl) rfl rfl ?_
        refine l_q rfl (q_move rfl rfl) rfl rfl ?_
        refine Pre.caseB 147 rfl (fun h147 => ?_) (fun h147 => ?_)
        · try simp only [decide_eq_true_eq, decide_eq_false_iff_not, Bool.not_eq_true', Bool.not_eq_false'] at h147
          refine l_q rfl (q_move rfl rfl) rfl rfl ?_
          refine l_q rfl (q_move rfl rfl) rfl rfl ?_
          refine l_q rfl (q_inc rfl rfl rfl (by omega)) rfl rfl ?_
          refine l_e rfl ?_
          refine e_callH [] (qmay hk67 ((i : Int) + 1)) rfl rfl rfl Try.call13 rfl (fun _ _ => trivial) ?_
          rintro _ _
          refine Pre.world (St _ _ (Q.H r36 q64)) (fun _ h => h) ?_
          refine Pre.setV (t := 151) (c := .bool false) rfl (by rw [hm66]; exact congrArg _ (x4 (by omega))) ?_
          refine l_q rfl (q_pick_t rfl rfl rfl) rfl rfl ?_
          refine l_q rfl (q_pick_f rfl rfl rfl) rfl rfl ?_
          refine l_q rfl (q_move rfl rfl) rfl rfl ?_
          refine Pre.setB (t := 154) (c := false) rfl (rfl) ?_
          refine l_q rfl (q_move rfl rfl) rfl rfl ?_
          refine l_e rfl ?_
          refine e_callH [] (qpin hk67 (by omega) (6) (200) (i64_in (by decide) (by decide))) rfl rfl rfl Try.call12 rfl (fun _ _ => trivial) ?_
          rintro q72 ⟨hm73_, _, hk74⟩
          refine Pre.world (St _ _ (Q.H r36 q72)) (fun _ h => h) ?_
          have hm73 : q72.M = (lnP (lnM (bitsOf l) k i)) := by rw [hm73_, hm66]; rfl
          refine Pre.setV (t := 156) (c := .int .i64 4) rfl (by rw [hm66]; exact congrArg _ x5) ?_
          refine l_q rfl (q_neq rfl rfl rfl) rfl rfl ?_
          refine l_q rfl (q_pick_f rfl rfl rfl) rfl rfl ?_
          refine l_nil ?_
          refine k_then ?_
          refine Pre.setB (t := 158) (c := false) rfl (rfl) ?_
          refine c_false rfl ?_
          refine c_skip ?_
          refine k_then ?_
          refine c_seq ?_
          refine c_region _ rfl ?_
          refine l_q rfl (q_move rfl rfl) rfl rfl ?_
          refine l_q rfl (q_move rfl rfl) rfl rfl ?_
          refine l_q rfl (q_lenV rfl Try.underlying49 rfl (fun _ h => hl.keep h (by simp [dom]))) rfl rfl ?_
          refine l_q rfl (q_lss rfl rfl rfl) rfl rfl ?_
          refine l_q rfl (q_move rfl rfl) rfl rfl ?_
          rcases cur_cases l (i := i) with hx | hx | hx
          · refine Pre.setB (t := 163) (c := false) rfl (decide_eq_false (by omega)) ?_
            refine l_not rfl rfl rfl ?_
            refine l_not rfl rfl rfl ?_
            refine l_not rfl rfl rfl ?_
            refine l_not rfl rfl rfl ?_
            refine l_q rfl (q_pick_f rfl rfl rfl) rfl rfl ?_
            refine l_nil ?_
            refine k_then ?_
            refine c_false rfl ?_
            refine c_seq ?_
            refine c_region _ rfl ?_
            refine l_q rfl (q_move rfl rfl) rfl rfl ?_
            refine l_q rfl (q_move rfl rfl) rfl rfl ?_
            refine l_q rfl (q_move rfl rfl) rfl rfl ?_
            refine l_q rfl (q_add64 rfl rfl rfl (by omega)) rfl rfl ?_
            have hc := bits_out (l := l) (t := i) (by omega) hx
            refine l_e rfl ?_
            refine e_callH [] (qpin hk74 (by omega) ((i : Int)) (10 + (i : Int)) (i64_in (by omega) (by omega))) rfl rfl rfl Try.call12 rfl (fun _ _ => trivial) ?_
            rintro q75 ⟨hm76_, _, hk77⟩
            refine Pre.world (St _ _ (Q.H r36 q75)) (fun _ h => h) ?_
            have hm76 : q75.M = (lnB (bitsOf l) k (i + 1)) := by rw [hm76_, hm73]; exact lnB_pin hc
            refine Pre.setV (t := 177) (c := .int .i64 3) rfl (by rw [hm73]; exact congrArg _ (x7 hc)) ?_
            refine l_q rfl (q_neq rfl rfl rfl) rfl rfl ?_
            refine l_nil ?_
            refine k_then ?_
            refine Pre.setB (t := 178) (c := false) rfl (rfl) ?_
            refine c_false rfl ?_
            refine c_skip ?_
            refine k_block ?_
            refine k_then ?_
            refine c_region _ rfl ?_
            refine l_q rfl (q_move rfl rfl) rfl rfl ?_
            refine l_q rfl (q_inc rfl rfl rfl (by omega)) rfl rfl ?_
            refine l_q rfl (q_assign rfl rfl) rfl rfl ?_
            refine l_nil ?_
            exact k_round ((i + 1, q75)) (by dsimp only; omega) ⟨by dsimp only; omega, hm76, by have h := hk77; rw [show 2 + k + 2 * i + 1 + 1 = 2 + k + 2 * (i + 1) by omega] at h; exact h⟩ (Sub.cons rfl (Sub.cons rfl (Sub.cons rfl (Sub.cons rfl (Sub.nil))))) (fun _ h => h)
          · have hil := get_lt hx
            refine Pre.setB (t := 163) (c := true) rfl (decide_eq_true (by omega)) ?_
            refine l_q rfl (q_move rfl rfl) rfl rfl ?_
            refine l_q rfl (q_move rfl rfl) rfl rfl ?_
            refine l_q rfl (q_indexV i rfl Try.underlying49 Try.sizeOf4 rfl (fun _ h => hl.keep h (by simp [dom])) rfl rfl (by omega)) rfl rfl ?_
            refine l_q rfl (q_loadV i 0 rfl Try.isAgg4 rfl rfl (fun _ h => hl.keep h (by simp [dom])) hx rfl) rfl rfl ?_
            refine l_q rfl (q_pick_t rfl rfl rfl) rfl rfl ?_
            refine l_nil ?_
            refine k_then ?_
            refine Pre.setB (t := 168) (c := false) rfl (rfl) ?_
            refine c_false rfl ?_
            refine c_seq ?_
            refine c_region _ rfl ?_
            refine l_q rfl (q_move rfl rfl) rfl rfl ?_
            refine l_q rfl (q_move rfl rfl) rfl rfl ?_
            refine l_q rfl (q_move rfl rfl) rfl rfl ?_
            refine l_q rfl (q_add64 rfl rfl rfl (by omega)) rfl rfl ?_
            have hc := bits_in (l := l) (t := i) (by omega) hx
            refine l_e rfl ?_
            refine e_callH [] (qpin hk74 (by omega) ((i : Int)) (10 + (i : Int)) (i64_in (by omega) (by omega))) rfl rfl rfl Try.call12 rfl (fun _ _ => trivial) ?_
            rintro q78 ⟨hm79_, _, hk80⟩
            refine Pre.world (St _ _ (Q.H r36 q78)) (fun _ h => h) ?_
            have hm79 : q78.M = (lnB (bitsOf l) k (i + 1)) := by rw [hm79_, hm73]; exact lnB_pin hc
            refine Pre.setV (t := 177) (c := .int .i64 3) rfl (by rw [hm73]; exact congrArg _ (x7 hc)) ?_
            refine l_q rfl (q_neq rfl rfl rfl) rfl rfl ?_
            refine l_nil ?_
            refine k_then ?_
            refine Pre.setB (t := 178) (c := false) rfl (rfl) ?_
            refine c_false rfl ?_
            refine c_skip ?_
            refine k_block ?_
            refine k_then ?_
            refine c_region _ rfl ?_
            refine l_q rfl (q_move rfl rfl) rfl rfl ?_
            refine l_q rfl (q_inc rfl rfl rfl (by omega)) rfl rfl ?_
            refine l_q rfl (q_assign rfl rfl) rfl rfl ?_
            refine l_nil ?_
            exact k_round ((i + 1, q78)) (by dsimp only; omega) ⟨by dsimp only; omega, hm79, by have h := hk80; rw [show 2 + k + 2 * i + 1 + 1 = 2 + k + 2 * (i + 1) by omega] at h; exact h⟩ (Sub.cons rfl (Sub.cons rfl (Sub.cons rfl (Sub.cons rfl (Sub.nil))))) (fun _ h => h)
          · have hil := get_lt hx
            refine Pre.setB (t := 163) (c := true) rfl (decide_eq_true (by omega)) ?_
            refine l_q rfl (q_move rfl rfl) rfl rfl ?_
            refine l_q rfl (q_move rfl rfl) rfl rfl ?_
            refine l_q rfl (q_indexV i rfl Try.underlying49 Try.sizeOf4 rfl (fun _ h => hl.keep h (by simp [dom])) rfl rfl (by omega)) rfl rfl ?_
            refine l_q rfl (q_loadV i 0 rfl Try.isAgg4 rfl rfl (fun _ h => hl.keep h (by simp [dom])) hx rfl) rfl rfl ?_
            refine l_q rfl (q_pick_t rfl rfl rfl) rfl rfl ?_
            refine l_nil ?_
            refine k_then ?_
            refine Pre.setB (t := 168) (c := true) rfl (rfl) ?_
            refine c_true rfl ?_
            refine c_seq ?_
            refine c_region _ rfl ?_
            refine l_q rfl (q_move rfl rfl) rfl rfl ?_
            refine l_q rfl (q_move rfl rfl) rfl rfl ?_
            have hc := bits_in (l := l) (t := i) (by omega) hx
            refine l_e rfl ?_
            refine e_callH [] (qclaim hk74 (by omega) ((i : Int))) rfl rfl rfl Try.call22 rfl (fun _ _ => trivial) ?_
            rintro q81 ⟨hm82_, _, hk83⟩
            refine Pre.world (St _ _ (Q.H r36 q81)) (fun _ h => h) ?_
            have hm82 : q81.M = (lnB (bitsOf l) k (i + 1)) := by rw [hm82_, hm73]; exact lnB_claim hc
            refine Pre.setV (t := 171) (c := .bool true) rfl (by rw [hm73]; exact congrArg _ (x6 hc)) ?_
            refine l_q rfl (q_not rfl rfl) rfl rfl ?_
            refine l_nil ?_
            refine k_then ?_
            refine Pre.setB (t := 172) (c := false) rfl (rfl) ?_
            refine c_false rfl ?_
            refine c_skip ?_
            refine k_block ?_
            refine k_then ?_
            refine c_region _ rfl ?_
            refine l_q rfl (q_move rfl rfl) rfl rfl ?_
            refine l_q rfl (q_inc rfl rfl rfl (by omega)) rfl rfl ?_
            refine l_q rfl (q_assign rfl rfl) rfl rfl ?_
            refine l_nil ?_
            exact k_round ((i + 1, q81)) (by dsimp only; omega) ⟨by dsimp only; omega, hm82, by have h := hk83; rw [show 2 + k + 2 * i + 1 + 1 = 2 + k + 2 * (i + 1) by omega] at h; exact h⟩ (Sub.cons rfl (Sub.cons rfl (Sub.cons rfl (Sub.cons rfl (Sub.nil))))) (fun _ h => h)
        · try simp only [decide_eq_true_eq, decide_eq_false_iff_not, Bool.not_eq_true', Bool.not_eq_false'] at h147
          refine l_not rfl rfl rfl ?_
          refine l_not rfl rfl rfl ?_
          refine l_not rfl rfl rfl ?_
          refine l_not rfl rfl rfl ?_
          refine l_q rfl (q_pick_f rfl rfl rfl) rfl rfl ?_
          refine l_q rfl (q_pick_f rfl rfl rfl) rfl rfl ?_
          refine l_q rfl (q_move rfl rfl) rfl rfl ?_
          refine l_q rfl (q_move rfl rfl) rfl rfl ?_
          refine l_e rfl ?_
          refine e_callH [] (qpin hk67 (by omega) (6) (200) (i64_in (by decide) (by decide))) rfl rfl rfl Try.call12 rfl (fun _ _ => trivial) ?_
          rintro q84 ⟨hm85_, _, hk86⟩
          refine Pre.world (St _ _ (Q.H r36 q84)) (fun _ h => h) ?_
          have hm85 : q84.M = (lnP (lnM (bitsOf l) k i)) := by rw [hm85_, hm66]; rfl
          refine Pre.setV (t := 156) (c := .int .i64 4) rfl (by rw [hm66]; exact congrArg _ x5) ?_
          refine l_q rfl (q_neq rfl rfl rfl) rfl rfl ?_
          refine l_q rfl (q_pick_f rfl rfl rfl) rfl rfl ?_
          refine l_nil ?_
          refine k_then ?_
          refine Pre.setB (t := 158) (c := false) rfl (rfl) ?_
          refine c_false rfl ?_
          refine c_skip ?_
          refine k_then ?_
          refine c_seq ?_
          refine c_region _ rfl ?_
          refine l_q rfl (q_move rfl rfl) rfl rfl ?_
          refine l_q rfl (q_move rfl rfl) rfl rfl ?_
          refine l_q rfl (q_lenV rfl Try.underlying49 rfl (fun _ h => hl.keep h (by simp [dom]))) rfl rfl ?_
          refine l_q rfl (q_lss rfl rfl rfl) rfl rfl ?_
          refine l_q rfl (q_move rfl rfl) rfl rfl ?_
          rcases cur_cases l (i := i) with hx | hx | hx
          · refine Pre.setB (t := 163) (c := false) rfl (decide_eq_false (by omega)) ?_
            refine l_not rfl rfl rfl ?_
            refine l_not rfl rfl rfl ?_
            refine l_not rfl rfl rfl ?_
            refine l_not rfl rfl rfl ?_
            refine l_q rfl (q_pick_f rfl rfl rfl) rfl rfl ?_
            refine l_nil ?_
            refine k_then ?_
            refine c_false rfl ?_
            refine c_seq ?_
            refine c_region _ rfl ?_
            refine l_q rfl (q_move rfl rfl) rfl rfl ?_
            refine l_q rfl (q_move rfl rfl) rfl rfl ?_
            refine l_q rfl (q_move rfl rfl) rfl rfl ?_
            refine l_q rfl (q_add64 rfl rfl rfl (by omega)) rfl rfl ?_
            have hc := bits_out (l := l) (t := i) (by omega) hx
            refine l_e rfl ?_
            refine e_callH [] (qpin hk86 (by omega) ((i : Int)) (10 + (i : Int)) (i64_in (by omega) (by omega))) rfl rfl rfl Try.call12 rfl (fun _ _ => trivial) ?_
            rintro q87 ⟨hm88_, _, hk89⟩
            refine Pre.world (St _ _ (Q.H r36 q87)) (fun _ h => h) ?_
            have hm88 : q87.M = (lnB (bitsOf l) k (i + 1)) := by rw [hm88_, hm85]; exact lnB_pin hc
            refine Pre.setV (t := 177) (c := .int .i64 3) rfl (by rw [hm85]; exact congrArg _ (x7 hc)) ?_
            refine l_q rfl (q_neq rfl rfl rfl) rfl rfl ?_
            refine l_nil ?_
            refine k_then ?_
            refine Pre.setB (t := 178) (c := false) rfl (rfl) ?_
            refine c_false rfl ?_
            refine c_skip ?_
            refine k_block ?_
            refine k_then ?_
            refine c_region _ rfl ?_
            refine l_q rfl (q_move rfl rfl) rfl rfl ?_
            refine l_q rfl (q_inc rfl rfl rfl (by omega)) rfl rfl ?_
            refine l_q rfl (q_assign rfl rfl) rfl rfl ?_
            refine l_nil ?_
            exact k_round ((i + 1, q87)) (by dsimp only; omega) ⟨by dsimp only; omega, hm88, by have h := hk89; rw [show 2 + k + 2 * i + 1 + 1 = 2 + k + 2 * (i + 1) by omega] at h; exact h⟩ (Sub.cons rfl (Sub.cons rfl (Sub.cons rfl (Sub.cons rfl (Sub.nil))))) (fun _ h => h)
          · have hil := get_lt hx
            refine Pre.setB (t := 163) (c := true) rfl (decide_eq_true (by omega)) ?_
            refine l_q rfl (q_move rfl rfl) rfl rfl ?_
            refine l_q rfl (q_move rfl rfl) rfl rfl ?_
            refine l_q rfl (q_indexV i rfl Try.underlying49 Try.sizeOf4 rfl (fun _ h => hl.keep h (by simp [dom])) rfl rfl (by omega)) rfl rfl ?_
            refine l_q rfl (q_loadV i 0 rfl Try.isAgg4 rfl rfl (fun _ h => hl.keep h (by simp [dom])) hx rfl) rfl rfl ?_
            refine l_q rfl (q_pick_t rfl rfl rfl) rfl rfl ?_
            refine l_nil ?_
            refine k_then ?_
            refine Pre.setB (t := 168) (c := false) rfl (rfl) ?_
            refine c_false rfl ?_
            refine c_seq ?_
            refine c_region _ rfl ?_
            refine l_q rfl (q_move rfl rfl) rfl rfl ?_
            refine l_q rfl (q_move rfl rfl) rfl rfl ?_
            refine l_q rfl (q_move rfl rfl) rfl rfl ?_
            refine l_q rfl (q_add64 rfl rfl rfl (by omega)) rfl rfl ?_
            have hc := bits_in (l := l) (t := i) (by omega) hx
            refine l_e rfl ?_
            refine e_callH [] (qpin hk86 (by omega) ((i : Int)) (10 + (i : Int)) (i64_in (by omega) (by omega))) rfl rfl rfl Try.call12 rfl (fun _ _ => trivial) ?_
            rintro q90 ⟨hm91_, _, hk92⟩
            refine Pre.world (St _ _ (Q.H r36 q90)) (fun _ h => h) ?_
            have hm91 : q90.M = (lnB (bitsOf l) k (i + 1)) := by rw [hm91_, hm85]; exact lnB_pin hc
            refine Pre.setV (t := 177) (c := .int .i64 3) rfl (by rw [hm85]; exact congrArg _ (x7 hc)) ?_
            refine l_q rfl (q_neq rfl rfl rfl) rfl rfl ?_
            refine l_nil ?_
            refine k_then ?_
            refine Pre.setB (t := 178) (c := false) rfl (rfl) ?_
            refine c_false rfl ?_
            refine c_skip ?_
            refine k_block ?_
            refine k_then ?_
            refine c_region _ rfl ?_
            refine l_q rfl (q_move rfl rfl) rfl rfl ?_
            refine l_q rfl (q_inc rfl rfl rfl (by omega)) rfl rfl ?_
            refine l_q rfl (q_assign rfl rfl) rfl rfl ?_
            refine l_nil ?_
            exact k_round ((i + 1, q90)) (by dsimp only; omega) ⟨by dsimp only; omega, hm91, by have h := hk92; rw [show 2 + k + 2 * i + 1 + 1 = 2 + k + 2 * (i + 1) by omega] at h; exact h⟩ (Sub.cons rfl (Sub.cons rfl (Sub.cons rfl (Sub.cons rfl (Sub.nil))))) (fun _ h => h)
          · have hil := get_lt hx
            refine Pre.setB (t := 163) (c := true) rfl (decide_eq_true (by omega)) ?_
            refine l_q rfl (q_move rfl rfl) rfl rfl ?_
            refine l_q rfl (q_move rfl rfl) rfl rfl ?_
            refine l_q rfl (q_indexV i rfl Try.underlying49 Try.sizeOf4 rfl (fun _ h => hl.keep h (by simp [dom])) rfl rfl (by omega)) rfl rfl ?_
            refine l_q rfl (q_loadV i 0 rfl Try.isAgg4 rfl rfl (fun _ h => hl.keep h (by simp [dom])) hx rfl) rfl rfl ?_
            refine l_q rfl (q_pick_t rfl rfl rfl) rfl rfl ?_
            refine l_nil ?_
            refine k_then ?_
            refine Pre.setB (t := 168) (c := true) rfl (rfl) ?_
            refine c_true rfl ?_
            refine c_seq ?_
            refine c_region _ rfl ?_
            refine l_q rfl (q_move rfl rfl) rfl rfl ?_
            refine l_q rfl (q_move rfl rfl) rfl rfl ?_
            have hc := bits_in (l := l) (t := i) (by omega) hx
            refine l_e rfl ?_
            refine e_callH [] (qclaim hk86 (by omega) ((i : Int))) rfl rfl rfl Try.call22 rfl (fun _ _ => trivial) ?_
            rintro q93 ⟨hm94_, _, hk95⟩
            refine Pre.world (St _ _ (Q.H r36 q93)) (fun _ h => h) ?_
            have hm94 : q93.M = (lnB (bitsOf l) k (i + 1)) := by rw [hm94_, hm85]; exact lnB_claim hc
            refine Pre.setV (t := 171) (c := .bool true) rfl (by rw [hm85]; exact congrArg _ (x6 hc)) ?_
            refine l_q rfl (q_not rfl rfl) rfl rfl ?_
            refine l_nil ?_
            refine k_then ?_
            refine Pre.setB (t := 172) (c := false) rfl (rfl) ?_
            refine c_false rfl ?_
            refine c_skip ?_
            refine k_block ?_
            refine k_then ?_
            refine c_region _ rfl ?_
            refine l_q rfl (q_move rfl rfl) rfl rfl ?_
            refine l_q rfl (q_inc rfl rfl rfl (by omega)) rfl rfl ?_
            refine l_q rfl (q_assign rfl rfl) rfl rfl ?_
            refine l_nil ?_
            exact k_round ((i + 1, q93)) (by dsimp only; omega) ⟨by dsimp only; omega, hm94, by have h := hk95; rw [show 2 + k + 2 * i + 1 + 1 = 2 + k + 2 * (i + 1) by omega] at h; exact h⟩ (Sub.cons rfl (Sub.cons rfl (Sub.cons rfl (Sub.cons rfl (Sub.nil))))) (fun _ h => h)
      · have hcj : (bitsOf l) (i - 1) = false := by rw [show i - 1 = j by omega]; exact bits_out (by omega) hj
        have hF : 0 < i ∧ (bitsOf l) (i - 1) = false := ⟨by omega, hcj⟩
        have hG : ¬ (0 < i ∧ (bitsOf l) (i - 1) = true) := by rw [hcj]; simp
        refine c_true rfl ?_
        refine c_skip ?_
        refine k_then ?_
        refine c_seq ?_
        refine c_block ?_
        refine c_seq ?_
        refine c_seq ?_
        refine c_region _ rfl ?_
        refine l_q rfl (q_move rfl rfl) rfl rfl ?_
        refine l_q rfl (q_gtr rfl rfl rfl) rfl rfl ?_
        refine l_q rfl (q_move rfl rfl) rfl rfl ?_
        refine Pre.setB (t := 80) (c := true) rfl (by first | exact decide_eq_true (by omega) | exact decide_eq_false (by omega)) ?_
        refine l_q rfl (q_move rfl rfl) rfl rfl ?_
        refine l_q rfl (q_sub64 rfl rfl rfl (by omega)) rfl rfl ?_
        refine l_q rfl (q_move rfl rfl) rfl rfl ?_
        refine l_q rfl (q_lenV rfl Try.underlying49 rfl (fun _ h => hl.keep h (by simp [dom]))) rfl rfl ?_
        refine l_q rfl (q_geq rfl rfl rfl) rfl rfl ?_
        refine l_q rfl (q_move rfl rfl) rfl rfl ?_
        refine Pre.setB (t := 86) (c := true) rfl (by first | exact decide_eq_true (by omega) | exact decide_eq_false (by omega)) ?_
        refine l_not rfl rfl rfl ?_
        refine l_not rfl rfl rfl ?_
        refine l_not rfl rfl rfl ?_
        refine l_not rfl rfl rfl ?_
        refine l_not rfl rfl rfl ?_
        refine l_not rfl rfl rfl ?_
        refine l_q rfl (q_pick_t rfl rfl rfl) rfl rfl ?_
        refine l_q rfl (q_pick_t rfl rfl rfl) rfl rfl ?_
        refine l_nil ?_
        refine k_then ?_
        refine c_true rfl ?_
        refine c_seq ?_
        refine c_region _ rfl ?_
        refine l_q rfl (q_move rfl rfl) rfl rfl ?_
        refine l_q rfl (q_move rfl rfl) rfl rfl ?_
        refine l_q rfl (q_add64 rfl rfl rfl (by omega)) rfl rfl ?_
        refine l_q rfl (q_build (nvL.c) rfl rfl (fun w => by kernel_rfl)) rfl rfl ?_
        refine row0 121 En.enc none ?_
        refine Pre.world (St _ _ (nrow nvL :: _)) (fun _ h => h) ?_
        refine l_e rfl ?_
        refine e_callH [] (qfill hqk nvL (by show 0 ≤ 1000; decide) (9 + (i : Int))) rfl rfl rfl Try.call14 rfl (fun _ _ => trivial) ?_
        rintro ⟨q96, v97⟩ ⟨hm98_, _, hk99⟩
        refine Pre.world (St _ _ (rowE v97 3 (encI .i64) (q.M.fill (9 + (i : Int)) nvL.leaf nvL.l).1.1 :: nrow nvL :: Q.H r36 q96)) (fun _ h => h) ?_
        dsimp only at hm98_ hk99
        have hm98 : q96.M = ((lnB (bitsOf l) k i).fill (9 + (i : Int)) nvL.leaf nvL.l).2 := by rw [hm98_, hqM]
        have ht100 : (q.M.fill (9 + (i : Int)) nvL.leaf nvL.l).1 = (((lnB (bitsOf l) k i).fill (9 + (i : Int)) nvL.leaf nvL.l).1.1, ((lnB (bitsOf l) k i).fill (9 + (i : Int)) nvL.leaf nvL.l).1.2) := by rw [hqM]; try rfl
        refine row_eq (show _ = ((lnB (bitsOf l) k i).fill (9 + (i : Int)) nvL.leaf nvL.l).1.1 from congrArg Prod.fst ht100) ?_
        refine Pre.setV (t := 99) (c := .tuple #[v97, .bool ((lnB (bitsOf l) k i).fill (9 + (i : Int)) nvL.leaf nvL.l).1.2]) rfl (by rw [congrArg Prod.snd ht100]) ?_
        refine l_nil ?_
        refine k_then ?_
        refine c_region _ rfl ?_
        refine l_q rfl (q_move rfl rfl) rfl rfl ?_
        refine l_q rfl (q_move rfl rfl) rfl rfl ?_
        refine l_q rfl (q_add64 rfl rfl rfl (by omega)) rfl rfl ?_
        refine drop0 ?_
        refine drop0 ?_
        refine l_e rfl ?_
        refine e_callH [] (qunpin hk99 ((9 + (i : Int)))) rfl rfl rfl Try.call19 rfl (fun _ _ => trivial) ?_
        rintro q101 ⟨hm102_, _, hk103⟩
        refine Pre.world (St _ _ (Q.H r36 q101)) (fun _ h => h) ?_
        have hm102 : q101.M = (lnF (bitsOf l) i (lnB (bitsOf l) k i)) := by rw [hm102_, hm98]; exact lnF_yes hF
        refine l_nil ?_
        refine k_then ?_
        refine c_seq ?_
        refine c_seq ?_
        refine c_region _ rfl ?_
        refine l_q rfl (q_move rfl rfl) rfl rfl ?_
        refine l_q rfl (q_gtr rfl rfl rfl) rfl rfl ?_
        refine l_q rfl (q_move rfl rfl) rfl rfl ?_
        refine Pre.setB (t := 106) (c := true) rfl (by first | exact decide_eq_true (by omega) | exact decide_eq_false (by omega)) ?_
        refine l_q rfl (q_move rfl rfl) rfl rfl ?_
        refine l_q rfl (q_sub64 rfl rfl rfl (by omega)) rfl rfl ?_
        refine l_q rfl (q_move rfl rfl) rfl rfl ?_
        refine l_q rfl (q_lenV rfl Try.underlying49 rfl (fun _ h => hl.keep h (by simp [dom]))) rfl rfl ?_
        refine l_q rfl (q_lss rfl rfl rfl) rfl rfl ?_
        refine l_q rfl (q_pick_t rfl rfl rfl) rfl rfl ?_
        refine l_q rfl (q_move rfl rfl) rfl rfl ?_
        refine Pre.setB (t := 113) (c := false) rfl (by first | exact decide_eq_true (by omega) | exact decide_eq_false (by omega)) ?_
        refine l_not rfl rfl rfl ?_
        refine l_not rfl rfl rfl ?_
        refine l_not rfl rfl rfl ?_
        refine l_not rfl rfl rfl ?_
        refine l_not rfl rfl rfl ?_
        refine l_q rfl (q_pick_f rfl rfl rfl) rfl rfl ?_
        refine l_nil ?_
        refine k_then ?_
        refine c_false rfl ?_
        refine c_seq ?_
        refine c_region _ rfl ?_
        refine l_q rfl (q_move rfl rfl) rfl rfl ?_
        obtain ⟨y, hy⟩ := x1 hG
        refine l_e rfl ?_
        refine e_callH [] (qevict hk103) rfl rfl rfl Try.call20 rfl (fun _ _ => trivial) ?_
        rintro ⟨q104, en105⟩ ⟨hm106_, hg111, hk107, hi109, hx108⟩
        refine Pre.world (St _ _ (Q.H r36 q104)) (fun _ h => h) ?_
        dsimp only at hm106_ hk107 hi109 hx108 hg111
        rw [← hg111] at hi109
        have hm106 : q104.M = (lnM (bitsOf l) k i) := by rw [hm106_, hm102]; exact lnM_ev hG
        have he110 : q101.M.evict.1 = (some y) := by rw [hm102]; exact hy
        rw [he110] at hx108
        refine Pre.setV (t := 126) (c := evV (some y) en105) rfl (by rw [he110]) ?_
        refine l_q rfl (q_move rfl rfl) rfl rfl ?_
        refine l_q rfl (q_extract rfl rfl rfl) rfl rfl ?_
        refine l_q rfl (q_extract rfl rfl rfl) rfl rfl ?_
        refine l_q rfl (q_extract rfl rfl rfl) rfl rfl ?_
        refine l_q rfl (q_extract rfl rfl rfl) rfl rfl ?_
        refine l_e rfl ?_
        refine e_alloc rfl rfl rfl Try.zeroValue37 ?_
        intro bz
        refine cells_eq (show _ = nv0.c from rfl) ?_
        refine l_q rfl (q_assign rfl rfl) rfl rfl ?_
        refine l_e rfl ?_
        refine e_storeAgg rfl rfl Try.sizeOf37 rfl rfl rfl (NV.one _) (by show 0 + 5 ≤ 5; decide) ?_
        refine cells_eq (show Sep.splice _ 0 (en105).c = (en105).c from Sep.splice_all rfl) ?_
        refine l_q rfl (q_assign rfl rfl) rfl rfl ?_
        refine l_q rfl (q_assign rfl rfl) rfl rfl ?_
        refine l_nil ?_
        refine k_then ?_
        refine c_seq ?_
        refine c_region _ rfl ?_
        refine l_q rfl (q_move rfl rfl) rfl rfl ?_
        refine l_q rfl (q_not rfl rfl) rfl rfl ?_
        refine l_nil ?_
        refine k_then ?_
        refine Pre.setB (t := 132) (c := false) rfl (rfl) ?_
        refine c_false rfl ?_
        refine c_skip ?_
        refine k_then ?_
        refine c_seq ?_
        refine c_seq ?_
        refine c_region _ rfl ?_
        refine l_q rfl (q_move rfl rfl) rfl rfl ?_
        refine drop0 ?_
        refine l_e rfl ?_
        refine e_callH [] (qfree hk107 ) rfl rfl rfl Try.call18 rfl (fun _ _ => trivial) ?_
        rintro _ _
        refine Pre.world (St _ _ (Q.H r36 q104)) (fun _ h => h) ?_
        refine Pre.setV (t := 134) (c := .int .i64 1) rfl (by rw [hm106]; exact congrArg _ (congrArg _ x2)) ?_
        refine l_q rfl (q_neq rfl rfl rfl) rfl rfl ?_
        refine l_q rfl (q_move rfl rfl) rfl rfl ?_
        refine Pre.setB (t := 136) (c := false) rfl (rfl) ?_
        refine l_q rfl (q_move rfl rfl) rfl rfl ?_
        refine l_q rfl (q_move rfl rfl) rfl rfl ?_
        refine l_e rfl ?_
        refine e_callH [] (qmay hk107 (i : Int)) rfl rfl rfl Try.call13 rfl (fun _ _ => trivial) ?_
        rintro _ _
        refine Pre.world (St _ _ (Q.H r36 q104)) (fun _ h => h) ?_
        refine Pre.setV (t := 139) (c := .bool true) rfl (by rw [hm106]; exact congrArg _ x3) ?_
        refine l_q rfl (q_not rfl rfl) rfl rfl ?_
        refine l_q rfl (q_pick_f rfl rfl rfl) rfl rfl ?_
        refine l_q rfl (q_move rfl rfl) rfl rfl ?_
        refine Pre.setB (t := 142) (c := false) rfl (rfl) ?_
        refine l_q rfl (q_move rfl rfl) rfl rfl ?_
        refine l_q rfl (q_inc rfl rfl rfl (by omega)) rfl rfl ?_
        refine l_q rfl (q_move rfl rfl) rfl rfl ?_
        refine l_q rfl (q_lss rfl rfl rfl) rfl rfl ?_
        refine l_q rfl (q_move rfl rfl) rfl rfl ?_
        refine Pre.caseB 147 rfl (fun h147 => ?_) (fun h147 => ?_)
        · try simp only [decide_eq_true_eq, decide_eq_false_iff_not, Bool.not_eq_true', Bool.not_eq_false'] at h147
          refine l_q rfl (q_move rfl rfl) rfl rfl ?_
          refine l_q rfl (q_move rfl rfl) rfl rfl ?_
          refine l_q rfl (q_inc rfl rfl rfl (by omega)) rfl rfl ?_
          refine l_e rfl ?_
          refine e_callH [] (qmay hk107 ((i : Int) + 1)) rfl rfl rfl Try.call13 rfl (fun _ _ => trivial) ?_
          rintro _ _
          refine Pre.world (St _ _ (Q.H r36 q104)) (fun _ h => h) ?_
          refine Pre.setV (t := 151) (c := .bool false) rfl (by rw [hm106]; exact congrArg _ (x4 (by omega))) ?_
          refine l_q rfl (q_pick_t rfl rfl rfl) rfl rfl ?_
          refine l_q rfl (q_pick_f rfl rfl rfl) rfl rfl ?_
          refine l_q rfl (q_move rfl rfl) rfl rfl ?_
          refine Pre.setB (t := 154) (c := false) rfl (rfl) ?_
          refine l_q rfl (q_move rfl rfl) rfl rfl ?_
          refine l_e rfl ?_
          refine e_callH [] (qpin hk107 (by omega) (6) (200) (i64_in (by decide) (by decide))) rfl rfl rfl Try.call12 rfl (fun _ _ => trivial) ?_
          rintro q112 ⟨hm113_, _, hk114⟩
          refine Pre.world (St _ _ (Q.H r36 q112)) (fun _ h => h) ?_
          have hm113 : q112.M = (lnP (lnM (bitsOf l) k i)) := by rw [hm113_, hm106]; rfl
          refine Pre.setV (t := 156) (c := .int .i64 4) rfl (by rw [hm106]; exact congrArg _ x5) ?_
          refine l_q rfl (q_neq rfl rfl rfl) rfl rfl ?_
          refine l_q rfl (q_pick_f rfl rfl rfl) rfl rfl ?_
          refine l_nil ?_
          refine k_then ?_
          refine Pre.setB (t := 158) (c := false) rfl (rfl) ?_
          refine c_false rfl ?_
          refine c_skip ?_
          refine k_then ?_
          refine c_seq ?_
          refine c_region _ rfl ?_
          refine l_q rfl (q_move rfl rfl) rfl rfl ?_
          refine l_q rfl (q_move rfl rfl) rfl rfl ?_
          refine l_q rfl (q_lenV rfl Try.underlying49 rfl (fun _ h => hl.keep h (by simp [dom]))) rfl rfl ?_
          refine l_q rfl (q_lss rfl rfl rfl) rfl rfl ?_
          refine l_q rfl (q_move rfl rfl) rfl rfl ?_
          rcases cur_cases l (i := i) with hx | hx | hx
          · refine Pre.setB (t := 163) (c := false) rfl (decide_eq_false (by omega)) ?_
            refine l_not rfl rfl rfl ?_
            refine l_not rfl rfl rfl ?_
            refine l_not rfl rfl rfl ?_
            refine l_not rfl rfl rfl ?_
            refine l_q rfl (q_pick_f rfl rfl rfl) rfl rfl ?_
            refine l_nil ?_
            refine k_then ?_
            refine c_false rfl ?_
            refine c_seq ?_
            refine c_region _ rfl ?_
            refine l_q rfl (q_move rfl rfl) rfl rfl ?_
            refine l_q rfl (q_move rfl rfl) rfl rfl ?_
            refine l_q rfl (q_move rfl rfl) rfl rfl ?_
            refine l_q rfl (q_add64 rfl rfl rfl (by omega)) rfl rfl ?_
            have hc := bits_out (l := l) (t := i) (by omega) hx
            refine l_e rfl ?_
            refine e_callH [] (qpin hk114 (by omega) ((i : Int)) (10 + (i : Int)) (i64_in (by omega) (by omega))) rfl rfl rfl Try.call12 rfl (fun _ _ => trivial) ?_
            rintro q115 ⟨hm116_, _, hk117⟩
            refine Pre.world (St _ _ (Q.H r36 q115)) (fun _ h => h) ?_
            have hm116 : q115.M = (lnB (bitsOf l) k (i + 1)) := by rw [hm116_, hm113]; exact lnB_pin hc
            refine Pre.setV (t := 177) (c := .int .i64 3) rfl (by rw [hm113]; exact congrArg _ (x7 hc)) ?_
            refine l_q rfl (q_neq rfl rfl rfl) rfl rfl ?_
            refine l_nil ?_
            refine k_then ?_
            refine Pre.setB (t := 178) (c := false) rfl (rfl) ?_
            refine c_false rfl ?_
            refine c_skip ?_
            refine k_block ?_
            refine k_then ?_
            refine c_region _ rfl ?_
            refine l_q rfl (q_move rfl rfl) rfl rfl ?_
            refine l_q rfl (q_inc rfl rfl rfl (by omega)) rfl rfl ?_
            refine l_q rfl (q_assign rfl rfl) rfl rfl ?_
            refine l_nil ?_
            exact k_round ((i + 1, q115)) (by dsimp only; omega) ⟨by dsimp only; omega, hm116, by have h := hk117; rw [show 2 + k + 2 * i + 1 + 1 = 2 + k + 2 * (i + 1) by omega] at h; exact h⟩ (Sub.cons rfl (Sub.cons rfl (Sub.cons rfl (Sub.cons rfl (Sub.nil))))) (fun _ h => h)
          · have hil := get_lt hx
            refine Pre.setB (t := 163) (c := true) rfl (decide_eq_true (by omega)) ?_
            refine l_q rfl (q_move rfl rfl) rfl rfl ?_
            refine l_q rfl (q_move rfl rfl) rfl rfl ?_
            refine l_q rfl (q_indexV i rfl Try.underlying49 Try.sizeOf4 rfl (fun _ h => hl.keep h (by simp [dom])) rfl rfl (by omega)) rfl rfl ?_
            refine l_q rfl (q_loadV i 0 rfl Try.isAgg4 rfl rfl (fun _ h => hl.keep h (by simp [dom])) hx rfl) rfl rfl ?_
            refine l_q rfl (q_pick_t rfl rfl rfl) rfl rfl ?_
            refine l_nil ?_
            refine k_then ?_
            refine Pre.setB (t := 168) (c := false) rfl (rfl) ?_
            refine c_false rfl ?_
            refine c_seq ?_
            refine c_region _ rfl ?_
            refine l_q rfl (q_move rfl rfl) rfl rfl ?_
            refine l_q rfl (q_move rfl rfl) rfl rfl ?_
            refine l_q rfl (q_move rfl rfl) rfl rfl ?_
            refine l_q rfl (q_add64 rfl rfl rfl (by omega)) rfl rfl ?_
            have hc := bits_in (l := l) (t := i) (by omega) hx
            refine l_e rfl ?_
            refine e_callH [] (qpin hk114 (by omega) ((i : Int)) (10 + (i : Int)) (i64_in (by omega) (by omega))) rfl rfl rfl Try.call12 rfl (fun _ _ => trivial) ?_
            rintro q118 ⟨hm119_, _, hk120⟩
            refine Pre.world (St _ _ (Q.H r36 q118)) (fun _ h => h) ?_
            have hm119 : q118.M = (lnB (bitsOf l) k (i + 1)) := by rw [hm119_, hm113]; exact lnB_pin hc
            refine Pre.setV (t := 177) (c := .int .i64 3) rfl (by rw [hm113]; exact congrArg _ (x7 hc)) ?_
            refine l_q rfl (q_neq rfl rfl rfl) rfl rfl ?_
            refine l_nil ?_
            refine k_then ?_
            refine Pre.setB (t := 178) (c := false) rfl (rfl) ?_
            refine c_false rfl ?_
            refine c_skip ?_
            refine k_block ?_
            refine k_then ?_
            refine c_region _ rfl ?_
            refine l_q rfl (q_move rfl rfl) rfl rfl ?_
            refine l_q rfl (q_inc rfl rfl rfl (by omega)) rfl rfl ?_
            refine l_q rfl (q_assign rfl rfl) rfl rfl ?_
            refine l_nil ?_
            exact k_round ((i + 1, q118)) (by dsimp only; omega) ⟨by dsimp only; omega, hm119, by have h := hk120; rw [show 2 + k + 2 * i + 1 + 1 = 2 + k + 2 * (i + 1) by omega] at h; exact h⟩ (Sub.cons rfl (Sub.cons rfl (Sub.cons rfl (Sub.cons rfl (Sub.nil))))) (fun _ h => h)
          · have hil := get_lt hx
            refine Pre.setB (t := 163) (c := true) rfl (decide_eq_true (by omega)) ?_
            refine l_q rfl (q_move rfl rfl) rfl rfl ?_
            refine l_q rfl (q_move rfl rfl) rfl rfl ?_
            refine l_q rfl (q_indexV i rfl Try.underlying49 Try.sizeOf4 rfl (fun _ h => hl.keep h (by simp [dom])) rfl rfl (by omega)) rfl rfl ?_
            refine l_q rfl (q_loadV i 0 rfl Try.isAgg4 rfl rfl (fun _ h => hl.keep h (by simp [dom])) hx rfl) rfl rfl ?_
            refine l_q rfl (q_pick_t rfl rfl rfl) rfl rfl ?_
            refine l_nil ?_
            refine k_then ?_
            refine Pre.setB (t := 168) (c := true) rfl (rfl) ?_
            refine c_true rfl ?_
            refine c_seq ?_
            refine c_region _ rfl ?_
            refine l_q rfl (q_move rfl rfl) rfl rfl ?_
            refine l_q rfl (q_move rfl rfl) rfl rfl ?_
            have hc := bits_in (l := l) (t := i) (by omega) hx
            refine l_e rfl ?_
            refine e_callH [] (qclaim hk114 (by omega) ((i : Int))) rfl rfl rfl Try.call22 rfl (fun _ _ => trivial) ?_
            rintro q121 ⟨hm122_, _, hk123⟩
            refine Pre.world (St _ _ (Q.H r36 q121)) (fun _ h => h) ?_
            have hm122 : q121.M = (lnB (bitsOf l) k (i + 1)) := by rw [hm122_, hm113]; exact lnB_claim hc
            refine Pre.setV (t := 171) (c := .bool true) rfl (by rw [hm113]; exact congrArg _ (x6 hc)) ?_
            refine l_q rfl (q_not rfl rfl) rfl rfl ?_
            refine l_nil ?_
            refine k_then ?_
            refine Pre.setB (t := 172) (c := false) rfl (rfl) ?_
            refine c_false rfl ?_
            refine c_skip ?_
            refine k_block ?_
            refine k_then ?_
            refine c_region _ rfl ?_
            refine l_q rfl (q_move rfl rfl) rfl rfl ?_
            refine l_q rfl (q_inc rfl rfl rfl (by omega)) rfl rfl ?_
            refine l_q rfl (q_assign rfl rfl) rfl rfl ?_
            refine l_nil ?_
            exact k_round ((i + 1, q121)) (by dsimp only; omega) ⟨by dsimp only; omega, hm122, by have h := hk123; rw [show 2 + k + 2 * i + 1 + 1 = 2 + k + 2 * (i + 1) by omega] at h; exact h⟩ (Sub.cons rfl (Sub.cons rfl (Sub.cons rfl (Sub.cons rfl (Sub.nil))))) (fun _ h => h)
        · try simp only [decide_eq_true_eq, decide_eq_false_iff_not, Bool.not_eq_true', Bool.not_eq_false'] at h147
          refine l_not rfl rfl rfl ?_
          refine l_not rfl rfl rfl ?_
          refine l_not rfl rfl rfl ?_
          refine l_not rfl rfl rfl ?_
          refine l_q rfl (q_pick_f rfl rfl rfl) rfl rfl ?_
          refine l_q rfl (q_pick_f rfl rfl rfl) rfl rfl ?_
          refine l_q rfl (q_move rfl rfl) rfl rfl ?_
          refine l_q rfl (q_move rfl rfl) rfl rfl ?_
          refine l_e rfl ?_
          refine e_callH [] (qpin hk107 (by omega) (6) (200) (i64_in (by decide) (by decide))) rfl rfl rfl Try.call12 rfl (fun _ _ => trivial) ?_
          rintro q124 ⟨hm125_, _, hk126⟩
          refine Pre.world (St _ _ (Q.H r36 q124)) (fun _ h => h) ?_
          have hm125 : q124.M = (lnP (lnM (bitsOf l) k i)) := by rw [hm125_, hm106]; rfl
          refine Pre.setV (t := 156) (c := .int .i64 4) rfl (by rw [hm106]; exact congrArg _ x5) ?_
          refine l_q rfl (q_neq rfl rfl rfl) rfl rfl ?_
          refine l_q rfl (q_pick_f rfl rfl rfl) rfl rfl ?_
          refine l_nil ?_
          refine k_then ?_
          refine Pre.setB (t := 158) (c := false) rfl (rfl) ?_
          refine c_false rfl ?_
          refine c_skip ?_
          refine k_then ?_
          refine c_seq ?_
          refine c_region _ rfl ?_
          refine l_q rfl (q_move rfl rfl) rfl rfl ?_
          refine l_q rfl (q_move rfl rfl) rfl rfl ?_
          refine l_q rfl (q_lenV rfl Try.underlying49 rfl (fun _ h => hl.keep h (by simp [dom]))) rfl rfl ?_
          refine l_q rfl (q_lss rfl rfl rfl) rfl rfl ?_
          refine l_q rfl (q_move rfl rfl) rfl rfl ?_
          rcases cur_cases l (i := i) with hx | hx | hx
          · refine Pre.setB (t := 163) (c := false) rfl (decide_eq_false (by omega)) ?_
            refine l_not rfl rfl rfl ?_
            refine l_not rfl rfl rfl ?_
            refine l_not rfl rfl rfl ?_
            refine l_not rfl rfl rfl ?_
            refine l_q rfl (q_pick_f rfl rfl rfl) rfl rfl ?_
            refine l_nil ?_
            refine k_then ?_
            refine c_false rfl ?_
            refine c_seq ?_
            refine c_region _ rfl ?_
            refine l_q rfl (q_move rfl rfl) rfl rfl ?_
            refine l_q rfl (q_move rfl rfl) rfl rfl ?_
            refine l_q rfl (q_move rfl rfl) rfl rfl ?_
            refine l_q rfl (q_add64 rfl rfl rfl (by omega)) rfl rfl ?_
            have hc := bits_out (l := l) (t := i) (by omega) hx
            refine l_e rfl ?_
            refine e_callH [] (qpin hk126 (by omega) ((i : Int)) (10 + (i : Int)) (i64_in (by omega) (by omega))) rfl rfl rfl Try.call12 rfl (fun _ _ => trivial) ?_
            rintro q127 ⟨hm128_, _, hk129⟩
            refine Pre.world (St _ _ (Q.H r36 q127)) (fun _ h => h) ?_
            have hm128 : q127.M = (lnB (bitsOf l) k (i + 1)) := by rw [hm128_, hm125]; exact lnB_pin hc
            refine Pre.setV (t := 177) (c := .int .i64 3) rfl (by rw [hm125]; exact congrArg _ (x7 hc)) ?_
            refine l_q rfl (q_neq rfl rfl rfl) rfl rfl ?_
            refine l_nil ?_
            refine k_then ?_
            refine Pre.setB (t := 178) (c := false) rfl (rfl) ?_
            refine c_false rfl ?_
            refine c_skip ?_
            refine k_block ?_
            refine k_then ?_
            refine c_region _ rfl ?_
            refine l_q rfl (q_move rfl rfl) rfl rfl ?_
            refine l_q rfl (q_inc rfl rfl rfl (by omega)) rfl rfl ?_
            refine l_q rfl (q_assign rfl rfl) rfl rfl ?_
            refine l_nil ?_
            exact k_round ((i + 1, q127)) (by dsimp only; omega) ⟨by dsimp only; omega, hm128, by have h := hk129; rw [show 2 + k + 2 * i + 1 + 1 = 2 + k + 2 * (i + 1) by omega] at h; exact h⟩ (Sub.cons rfl (Sub.cons rfl (Sub.cons rfl (Sub.cons rfl (Sub.nil))))) (fun _ h => h)
          · have hil := get_lt hx
            refine Pre.setB (t := 163) (c := true) rfl (decide_eq_true (by omega)) ?_
            refine l_q rfl (q_move rfl rfl) rfl rfl ?_
            refine l_q rfl (q_move rfl rfl) rfl rfl ?_
            refine l_q rfl (q_indexV i rfl Try.underlying49 Try.sizeOf4 rfl (fun _ h => hl.keep h (by simp [dom])) rfl rfl (by omega)) rfl rfl ?_
            refine l_q rfl (q_loadV i 0 rfl Try.isAgg4 rfl rfl (fun _ h => hl.keep h (by simp [dom])) hx rfl) rfl rfl ?_
            refine l_q rfl (q_pick_t rfl rfl rfl) rfl rfl ?_
            refine l_nil ?_
            refine k_then ?_
            refine Pre.setB (t := 168) (c := false) rfl (rfl) ?_
            refine c_false rfl ?_
            refine c_seq ?_
            refine c_region _ rfl ?_
            refine l_q rfl (q_move rfl rfl) rfl rfl ?_
            refine l_q rfl (q_move rfl rfl) rfl rfl ?_
            refine l_q rfl (q_move rfl rfl) rfl rfl ?_
            refine l_q rfl (q_add64 rfl rfl rfl (by omega)) rfl rfl ?_
            have hc := bits_in (l := l) (t := i) (by omega) hx
            refine l_e rfl ?_
            refine e_callH [] (qpin hk126 (by omega) ((i : Int)) (10 + (i : Int)) (i64_in (by omega) (by omega))) rfl rfl rfl Try.call12 rfl (fun _ _ => trivial) ?_
            rintro q130 ⟨hm131_, _, hk132⟩
            refine Pre.world (St _ _ (Q.H r36 q130)) (fun _ h => h) ?_
            have hm131 : q130.M = (lnB (bitsOf l) k (i + 1)) := by rw [hm131_, hm125]; exact lnB_pin hc
            refine Pre.setV (t := 177) (c := .int .i64 3) rfl (by rw [hm125]; exact congrArg _ (x7 hc)) ?_
            refine l_q rfl (q_neq rfl rfl rfl) rfl rfl ?_
            refine l_nil ?_
            refine k_then ?_
            refine Pre.setB (t := 178) (c := false) rfl (rfl) ?_
            refine c_false rfl ?_
            refine c_skip ?_
            refine k_block ?_
            refine k_then ?_
            refine c_region _ rfl ?_
            refine l_q rfl (q_move rfl rfl) rfl rfl ?_
            refine l_q rfl (q_inc rfl rfl rfl (by omega)) rfl rfl ?_
            refine l_q rfl (q_assign rfl rfl) rfl rfl ?_
            refine l_nil ?_
            exact k_round ((i + 1, q130)) (by dsimp only; omega) ⟨by dsimp only; omega, hm131, by have h := hk132; rw [show 2 + k + 2 * i + 1 + 1 = 2 + k + 2 * (i + 1) by omega] at h; exact h⟩ (Sub.cons rfl (Sub.cons rfl (Sub.cons rfl (Sub.cons rfl (Sub.nil))))) (fun _ h => h)
          · have hil := get_lt hx
            refine Pre.setB (t := 163) (c := true) rfl (decide_eq_true (by omega)) ?_
            refine l_q rfl (q_move rfl rfl) rfl rfl ?_
            refine l_q rfl (q_move rfl rfl) rfl rfl ?_
            refine l_q rfl (q_indexV i rfl Try.underlying49 Try.sizeOf4 rfl (fun _ h => hl.keep h (by simp [dom])) rfl rfl (by omega)) rfl rfl ?_
            refine l_q rfl (q_loadV i 0 rfl Try.isAgg4 rfl rfl (fun _ h => hl.keep h (by simp [dom])) hx rfl) rfl rfl ?_
            refine l_q rfl (q_pick_t rfl rfl rfl) rfl rfl ?_
            refine l_nil ?_
            refine k_then ?_
            refine Pre.setB (t := 168) (c := true) rfl (rfl) ?_
            refine c_true rfl ?_
            refine c_seq ?_
            refine c_region _ rfl ?_
            refine l_q rfl (q_move rfl rfl) rfl rfl ?_
            refine l_q rfl (q_move rfl rfl) rfl rfl ?_
            have hc := bits_in (l := l) (t := i) (by omega) hx
            refine l_e rfl ?_
            refine e_callH [] (qclaim hk126 (by omega) ((i : Int))) rfl rfl rfl Try.call22 rfl (fun _ _ => trivial) ?_
            rintro q133 ⟨hm134_, _, hk135⟩
            refine Pre.world (St _ _ (Q.H r36 q133)) (fun _ h => h) ?_
            have hm134 : q133.M = (lnB (bitsOf l) k (i + 1)) := by rw [hm134_, hm125]; exact lnB_claim hc
            refine Pre.setV (t := 171) (c := .bool true) rfl (by rw [hm125]; exact congrArg _ (x6 hc)) ?_
            refine l_q rfl (q_not rfl rfl) rfl rfl ?_
            refine l_nil ?_
            refine k_then ?_
            refine Pre.setB (t := 172) (c := false) rfl (rfl) ?_
            refine c_false rfl ?_
            refine c_skip ?_
            refine k_block ?_
            refine k_then ?_
            refine c_region _ rfl ?_
            refine l_q rfl (q_move rfl rfl) rfl rfl ?_
            refine l_q rfl (q_inc rfl rfl rfl (by omega)) rfl rfl ?_
            refine l_q rfl (q_assign rfl rfl) rfl rfl ?_
            refine l_nil ?_
            exact k_round ((i + 1, q133)) (by dsimp only; omega) ⟨by dsimp only; omega, hm134, by have h := hk135; rw [show 2 + k + 2 * i + 1 + 1 = 2 + k + 2 * (i + 1) by omega] at h; exact h⟩ (Sub.cons rfl (Sub.cons rfl (Sub.cons rfl (Sub.cons rfl (Sub.nil))))) (fun _ h => h)
      · have hcj : (bitsOf l) (i - 1) = false := by rw [show i - 1 = j by omega]; exact bits_in (by omega) hj
        have hjl := get_lt hj
        have hF : 0 < i ∧ (bitsOf l) (i - 1) = false := ⟨by omega, hcj⟩
        have hG : ¬ (0 < i ∧ (bitsOf l) (i - 1) = true) := by rw [hcj]; simp
        refine c_true rfl ?_
        refine c_skip ?_
        refine k_then ?_
        refine c_seq ?_
        refine c_block ?_
        refine c_seq ?_
        refine c_seq ?_
        refine c_region _ rfl ?_
        refine l_q rfl (q_move rfl rfl) rfl rfl ?_
        refine l_q rfl (q_gtr rfl rfl rfl) rfl rfl ?_
        refine l_q rfl (q_move rfl rfl) rfl rfl ?_
        refine Pre.setB (t := 80) (c := true) rfl (by first | exact decide_eq_true (by omega) | exact decide_eq_false (by omega)) ?_
        refine l_q rfl (q_move rfl rfl) rfl rfl ?_
        refine l_q rfl (q_sub64 rfl rfl rfl (by omega)) rfl rfl ?_
        refine l_q rfl (q_move rfl rfl) rfl rfl ?_
        refine l_q rfl (q_lenV rfl Try.underlying49 rfl (fun _ h => hl.keep h (by simp [dom]))) rfl rfl ?_
        refine l_q rfl (q_geq rfl rfl rfl) rfl rfl ?_
        refine l_q rfl (q_move rfl rfl) rfl rfl ?_
        refine Pre.setB (t := 86) (c := false) rfl (by first | exact decide_eq_true (by omega) | exact decide_eq_false (by omega)) ?_
        refine l_q rfl (q_move rfl rfl) rfl rfl ?_
        refine l_q rfl (q_move rfl rfl) rfl rfl ?_
        refine l_q rfl (q_sub64 rfl rfl rfl (by omega)) rfl rfl ?_
        refine l_q rfl (q_indexV j rfl Try.underlying49 Try.sizeOf4 rfl (fun _ h => hl.keep h (by simp)) rfl (by omega) (by omega)) rfl rfl ?_
        refine l_q rfl (q_loadV j 0 rfl Try.isAgg4 rfl rfl (fun _ h => hl.keep h (by simp [dom])) hj rfl) rfl rfl ?_
        refine l_q rfl (q_not rfl rfl) rfl rfl ?_
        refine l_q rfl (q_pick_f rfl rfl rfl) rfl rfl ?_
        refine l_q rfl (q_pick_t rfl rfl rfl) rfl rfl ?_
        refine l_nil ?_
        refine k_then ?_
        refine Pre.setB (t := 94) (c := true) rfl (rfl) ?_
        refine c_true rfl ?_
        refine c_seq ?_
        refine c_region _ rfl ?_
        refine l_q rfl (q_move rfl rfl) rfl rfl ?_
        refine l_q rfl (q_move rfl rfl) rfl rfl ?_
        refine l_q rfl (q_add64 rfl rfl rfl (by omega)) rfl rfl ?_
        refine l_q rfl (q_build (nvL.c) rfl rfl (fun w => by kernel_rfl)) rfl rfl ?_
        refine row0 121 En.enc none ?_
        refine Pre.world (St _ _ (nrow nvL :: _)) (fun _ h => h) ?_
        refine l_e rfl ?_
        refine e_callH [] (qfill hqk nvL (by show 0 ≤ 1000; decide) (9 + (i : Int))) rfl rfl rfl Try.call14 rfl (fun _ _ => trivial) ?_
        rintro ⟨q136, v137⟩ ⟨hm138_, _, hk139⟩
        refine Pre.world (St _ _ (rowE v137 3 (encI .i64) (q.M.fill (9 + (i : Int)) nvL.leaf nvL.l).1.1 :: nrow nvL :: Q.H r36 q136)) (fun _ h => h) ?_
        dsimp only at hm138_ hk139
        have hm138 : q136.M = ((lnB (bitsOf l) k i).fill (9 + (i : Int)) nvL.leaf nvL.l).2 := by rw [hm138_, hqM]
        have ht140 : (q.M.fill (9 + (i : Int)) nvL.leaf nvL.l).1 = (((lnB (bitsOf l) k i).fill (9 + (i : Int)) nvL.leaf nvL.l).1.1, ((lnB (bitsOf l) k i).fill (9 + (i : Int)) nvL.leaf nvL.l).1.2) := by rw [hqM]; try rfl
        refine row_eq (show _ = ((lnB (bitsOf l) k i).fill (9 + (i : Int)) nvL.leaf nvL.l).1.1 from congrArg Prod.fst ht140) ?_
        refine Pre.setV (t := 99) (c := .tuple #[v137, .bool ((lnB (bitsOf l) k i).fill (9 + (i : Int)) nvL.leaf nvL.l).1.2]) rfl (by rw [congrArg Prod.snd ht140]) ?_
        refine l_nil ?_
        refine k_then ?_
        refine c_region _ rfl ?_
        refine l_q rfl (q_move rfl rfl) rfl rfl ?_
        refine l_q rfl (q_move rfl rfl) rfl rfl ?_
        refine l_q rfl (q_add64 rfl rfl rfl (by omega)) rfl rfl ?_
        refine drop0 ?_
        refine drop0 ?_
        refine l_e rfl ?_
        refine e_callH [] (qunpin hk139 ((9 + (i : Int)))) rfl rfl rfl Try.call19 rfl (fun _ _ => trivial) ?_
        rintro q141 ⟨hm142_, _, hk143⟩
        refine Pre.world (St _ _ (Q.H r36 q141)) (fun _ h => h) ?_
        have hm142 : q141.M = (lnF (bitsOf l) i (lnB (bitsOf l) k i)) := by rw [hm142_, hm138]; exact lnF_yes hF
        refine l_nil ?_
        refine k_then ?_
        refine c_seq ?_
        refine c_seq ?_
        refine c_region _ rfl ?_
        refine l_q rfl (q_move rfl rfl) rfl rfl ?_
        refine l_q rfl (q_gtr rfl rfl rfl) rfl rfl ?_
        refine l_q rfl (q_move rfl rfl) rfl rfl ?_
        refine Pre.setB (t := 106) (c := true) rfl (by first | exact decide_eq_true (by omega) | exact decide_eq_false (by omega)) ?_
        refine l_q rfl (q_move rfl rfl) rfl rfl ?_
        refine l_q rfl (q_sub64 rfl rfl rfl (by omega)) rfl rfl ?_
        refine l_q rfl (q_move rfl rfl) rfl rfl ?_
        refine l_q rfl (q_lenV rfl Try.underlying49 rfl (fun _ h => hl.keep h (by simp [dom]))) rfl rfl ?_
        refine l_q rfl (q_lss rfl rfl rfl) rfl rfl ?_
        refine l_q rfl (q_pick_t rfl rfl rfl) rfl rfl ?_
        refine l_q rfl (q_move rfl rfl) rfl rfl ?_
        refine Pre.setB (t := 113) (c := true) rfl (by first | exact decide_eq_true (by omega) | exact decide_eq_false (by omega)) ?_
        refine l_q rfl (q_move rfl rfl) rfl rfl ?_
        refine l_q rfl (q_move rfl rfl) rfl rfl ?_
        refine l_q rfl (q_sub64 rfl rfl rfl (by omega)) rfl rfl ?_
        refine l_q rfl (q_indexV j rfl Try.underlying49 Try.sizeOf4 rfl (fun _ h => hl.keep h (by simp)) rfl (by omega) (by omega)) rfl rfl ?_
        refine l_q rfl (q_loadV j 0 rfl Try.isAgg4 rfl rfl (fun _ h => hl.keep h (by simp [dom])) hj rfl) rfl rfl ?_
        refine l_q rfl (q_pick_t rfl rfl rfl) rfl rfl ?_
        refine l_nil ?_
        refine k_then ?_
        refine Pre.setB (t := 119) (c := false) rfl (rfl) ?_
        refine c_false rfl ?_
        refine c_seq ?_
        refine c_region _ rfl ?_
        refine l_q rfl (q_move rfl rfl) rfl rfl ?_
        obtain ⟨y, hy⟩ := x1 hG
        refine l_e rfl ?_
        refine e_callH [] (qevict hk143) rfl rfl rfl Try.call20 rfl (fun _ _ => trivial) ?_
        rintro ⟨q144, en145⟩ ⟨hm146_, hg151, hk147, hi149, hx148⟩
        refine Pre.world (St _ _ (Q.H r36 q144)) (fun _ h => h) ?_
        dsimp only at hm146_ hk147 hi149 hx148 hg151
        rw [← hg151] at hi149
        have hm146 : q144.M = (lnM (bitsOf l) k i) := by rw [hm146_, hm142]; exact lnM_ev hG
        have he150 : q141.M.evict.1 = (some y) := by rw [hm142]; exact hy
        rw [he150] at hx148
        refine Pre.setV (t := 126) (c := evV (some y) en145) rfl (by rw [he150]) ?_
        refine l_q rfl (q_move rfl rfl) rfl rfl ?_
        refine l_q rfl (q_extract rfl rfl rfl) rfl rfl ?_
        refine l_q rfl (q_extract rfl rfl rfl) rfl rfl ?_
        refine l_q rfl (q_extract rfl rfl rfl) rfl rfl ?_
        refine l_q rfl (q_extract rfl rfl rfl) rfl rfl ?_
        refine l_e rfl ?_
        refine e_alloc rfl rfl rfl Try.zeroValue37 ?_
        intro bz
        refine cells_eq (show _ = nv0.c from rfl) ?_
        refine l_q rfl (q_assign rfl rfl) rfl rfl ?_
        refine l_e rfl ?_
        refine e_storeAgg rfl rfl Try.sizeOf37 rfl rfl rfl (NV.one _) (by show 0 + 5 ≤ 5; decide) ?_
        refine cells_eq (show Sep.splice _ 0 (en145).c = (en145).c from Sep.splice_all rfl) ?_
        refine l_q rfl (q_assign rfl rfl) rfl rfl ?_
        refine l_q rfl (q_assign rfl rfl) rfl rfl ?_
        refine l_nil ?_
        refine k_then ?_
        refine c_seq ?_
        refine c_region _ rfl ?_
        refine l_q rfl (q_move rfl rfl) rfl rfl ?_
        refine l_q rfl (q_not rfl rfl) rfl rfl ?_
        refine l_nil ?_
        refine k_then ?_
        refine Pre.setB (t := 132) (c := false) rfl (rfl) ?_
        refine c_false rfl ?_
        refine c_skip ?_
        refine k_then ?_
        refine c_seq ?_
        refine c_seq ?_
        refine c_region _ rfl ?_
        refine l_q rfl (q_move rfl rfl) rfl rfl ?_
        refine drop0 ?_
        refine l_e rfl ?_
        refine e_callH [] (qfree hk147 ) rfl rfl rfl Try.call18 rfl (fun _ _ => trivial) ?_
        rintro _ _
        refine Pre.world (St _ _ (Q.H r36 q144)) (fun _ h => h) ?_
        refine Pre.setV (t := 134) (c := .int .i64 1) rfl (by rw [hm146]; exact congrArg _ (congrArg _ x2)) ?_
        refine l_q rfl (q_neq rfl rfl rfl) rfl rfl ?_
        refine l_q rfl (q_move rfl rfl) rfl rfl ?_
        refine Pre.setB (t := 136) (c := false) rfl (rfl) ?_
        refine l_q rfl (q_move rfl rfl) rfl rfl ?_
        refine l_q rfl (q_move rfl rfl) rfl rfl ?_
        refine l_e rfl ?_
        refine e_callH [] (qmay hk147 (i : Int)) rfl rfl rfl Try.call13 rfl (fun _ _ => trivial) ?_
        rintro _ _
        refine Pre.world (St _ _ (Q.H r36 q144)) (fun _ h => h) ?_
        refine Pre.setV (t := 139) (c := .bool true) rfl (by rw [hm146]; exact congrArg _ x3) ?_
        refine l_q rfl (q_not rfl rfl) rfl rfl ?_
        refine l_q rfl (q_pick_f rfl rfl rfl) rfl rfl ?_
        refine l_q rfl (q_move rfl rfl) rfl rfl ?_
        refine Pre.setB (t := 142) (c := false) rfl (rfl) ?_
        refine l_q rfl (q_move rfl rfl) rfl rfl ?_
        refine l_q rfl (q_inc rfl rfl rfl (by omega)) rfl rfl ?_
        refine l_q rfl (q_move rfl rfl) rfl rfl ?_
        refine l_q rfl (q_lss rfl rfl rfl) rfl rfl ?_
        refine l_q rfl (q_move rfl rfl) rfl rfl ?_
        refine Pre.caseB 147 rfl (fun h147 => ?_) (fun h147 => ?_)
        · try simp only [decide_eq_true_eq, decide_eq_false_iff_not, Bool.not_eq_true', Bool.not_eq_false'] at h147
          refine l_q rfl (q_move rfl rfl) rfl rfl ?_
          refine l_q rfl (q_move rfl rfl) rfl rfl ?_
          refine l_q rfl (q_inc rfl rfl rfl (by omega)) rfl rfl ?_
          refine l_e rfl ?_
          refine e_callH [] (qmay hk147 ((i : Int) + 1)) rfl rfl rfl Try.call13 rfl (fun _ _ => trivial) ?_
          rintro _ _
          refine Pre.world (St _ _ (Q.H r36 q144)) (fun _ h => h) ?_
          refine Pre.setV (t := 151) (c := .bool false) rfl (by rw [hm146]; exact congrArg _ (x4 (by omega))) ?_
          refine l_q rfl (q_pick_t rfl rfl rfl) rfl rfl ?_
          refine l_q rfl (q_pick_f rfl rfl rfl) rfl rfl ?_
          refine l_q rfl (q_move rfl rfl) rfl rfl ?_
          refine Pre.setB (t := 154) (c := false) rfl (rfl) ?_
          refine l_q rfl (q_move rfl rfl) rfl rfl ?_
          refine l_e rfl ?_
          refine e_callH [] (qpin hk147 (by omega) (6) (200) (i64_in (by decide) (by decide))) rfl rfl rfl Try.call12 rfl (fun _ _ => trivial) ?_
          rintro q152 ⟨hm153_, _, hk154⟩
          refine Pre.world (St _ _ (Q.H r36 q152)) (fun _ h => h) ?_
          have hm153 : q152.M = (lnP (lnM (bitsOf l) k i)) := by rw [hm153_, hm146]; rfl
          refine Pre.setV (t := 156) (c := .int .i64 4) rfl (by rw [hm146]; exact congrArg _ x5) ?_
          refine l_q rfl (q_neq rfl rfl rfl) rfl rfl ?_
          refine l_q rfl (q_pick_f rfl rfl rfl) rfl rfl ?_
          refine l_nil ?_
          refine k_then ?_
          refine Pre.setB (t := 158) (c := false) rfl (rfl) ?_
          refine c_false rfl ?_
          refine c_skip ?_
          refine k_then ?_
          refine c_seq ?_
          refine c_region _ rfl ?_
          refine l_q rfl (q_move rfl rfl) rfl rfl ?_
          refine l_q rfl (q_move rfl rfl) rfl rfl ?_
          refine l_q rfl (q_lenV rfl Try.underlying49 rfl (fun _ h => hl.keep h (by simp [dom]))) rfl rfl ?_
          refine l_q rfl (q_lss rfl rfl rfl) rfl rfl ?_
          refine l_q rfl (q_move rfl rfl) rfl rfl ?_
          rcases cur_cases l (i := i) with hx | hx | hx
          · refine Pre.setB (t := 163) (c := false) rfl (decide_eq_false (by omega)) ?_
            refine l_not rfl rfl rfl ?_
            refine l_not rfl rfl rfl ?_
            refine l_not rfl rfl rfl ?_
            refine l_not rfl rfl rfl ?_
            refine l_q rfl (q_pick_f rfl rfl rfl) rfl rfl ?_
            refine l_nil ?_
            refine k_then ?_
            refine c_false rfl ?_
            refine c_seq ?_
            refine c_region _ rfl ?_
            refine l_q rfl (q_move rfl rfl) rfl rfl ?_
            refine l_q rfl (q_move rfl rfl) rfl rfl ?_
            refine l_q rfl (q_move rfl rfl) rfl rfl ?_
            refine l_q rfl (q_add64 rfl rfl rfl (by omega)) rfl rfl ?_
            have hc := bits_out (l := l) (t := i) (by omega) hx
            refine l_e rfl ?_
            refine e_callH [] (qpin hk154 (by omega) ((i : Int)) (10 + (i : Int)) (i64_in (by omega) (by omega))) rfl rfl rfl Try.call12 rfl (fun _ _ => trivial) ?_
            rintro q155 ⟨hm156_, _, hk157⟩
            refine Pre.world (St _ _ (Q.H r36 q155)) (fun _ h => h) ?_
            have hm156 : q155.M = (lnB (bitsOf l) k (i + 1)) := by rw [hm156_, hm153]; exact lnB_pin hc
            refine Pre.setV (t := 177) (c := .int .i64 3) rfl (by rw [hm153]; exact congrArg _ (x7 hc)) ?_
            refine l_q rfl (q_neq rfl rfl rfl) rfl rfl ?_
            refine l_nil ?_
            refine k_then ?_
            refine Pre.setB (t := 178) (c := false) rfl (rfl) ?_
            refine c_false rfl ?_
            refine c_skip ?_
            refine k_block ?_
            refine k_then ?_
            refine c_region _ rfl ?_
            refine l_q rfl (q_move rfl rfl) rfl rfl ?_
            refine l_q rfl (q_inc rfl rfl rfl (by omega)) rfl rfl ?_
            refine l_q rfl (q_assign rfl rfl) rfl rfl ?_
            refine l_nil ?_
            exact k_round ((i + 1, q155)) (by dsimp only; omega) ⟨by dsimp only; omega, hm156, by have h := hk157; rw [show 2 + k + 2 * i + 1 + 1 = 2 + k + 2 * (i + 1) by omega] at h; exact h⟩ (Sub.cons rfl (Sub.cons rfl (Sub.cons rfl (Sub.cons rfl (Sub.nil))))) (fun _ h => h)
          · have hil := get_lt hx
            refine Pre.setB (t := 163) (c := true) rfl (decide_eq_true (by omega)) ?_
            refine l_q rfl (q_move rfl rfl) rfl rfl ?_
            refine l_q rfl (q_move rfl rfl) rfl rfl ?_
            refine l_q rfl (q_indexV i rfl Try.underlying49 Try.sizeOf4 rfl (fun _ h => hl.keep h (by simp [dom])) rfl rfl (by omega)) rfl rfl ?_
            refine l_q rfl (q_loadV i 0 rfl Try.isAgg4 rfl rfl (fun _ h => hl.keep h (by simp [dom])) hx rfl) rfl rfl ?_
            refine l_q rfl (q_pick_t rfl rfl rfl) rfl rfl ?_
            refine l_nil ?_
            refine k_then ?_
            refine Pre.setB (t := 168) (c := false) rfl (rfl) ?_
            refine c_false rfl ?_
            refine c_seq ?_
            refine c_region _ rfl ?_
            refine l_q rfl (q_move rfl rfl) rfl rfl ?_
            refine l_q rfl (q_move rfl rfl) rfl rfl ?_
            refine l_q rfl (q_move rfl rfl) rfl rfl ?_
            refine l_q rfl (q_add64 rfl rfl rfl (by omega)) rfl rfl ?_
            have hc := bits_in (l := l) (t := i) (by omega) hx
            refine l_e rfl ?_
            refine e_callH [] (qpin hk154 (by omega) ((i : Int)) (10 + (i : Int)) (i64_in (by omega) (by omega))) rfl rfl rfl Try.call12 rfl (fun _ _ => trivial) ?_
            rintro q158 ⟨hm159_, _, hk160⟩
            refine Pre.world (St _ _ (Q.H r36 q158)) (fun _ h => h) ?_
            have hm159 : q158.M = (lnB (bitsOf l) k (i + 1)) := by rw [hm159_, hm153]; exact lnB_pin hc
            refine Pre.setV (t := 177) (c := .int .i64 3) rfl (by rw [hm153]; exact congrArg _ (x7 hc)) ?_
            refine l_q rfl (q_neq rfl rfl rfl) rfl rfl ?_
            refine l_nil ?_
            refine k_then ?_
            refine Pre.setB (t := 178) (c := false) rfl (rfl) ?_
            refine c_false rfl ?_
            refine c_skip ?_
            refine k_block ?_
            refine k_then ?_
            refine c_region _ rfl ?_
            refine l_q rfl (q_move rfl rfl) rfl rfl ?_
            refine l_q rfl (q_inc rfl rfl rfl (by omega)) rfl rfl ?_
            refine l_q rfl (q_assign rfl rfl) rfl rfl ?_
            refine l_nil ?_
            exact k_round ((i + 1, q158)) (by dsimp only; omega) ⟨by dsimp only; omega, hm159, by have h := hk160; rw [show 2 + k + 2 * i + 1 + 1 = 2 + k + 2 * (i + 1) by omega] at h; exact h⟩ (Sub.cons rfl (Sub.cons rfl (Sub.cons rfl (Sub.cons rfl (Sub.nil))))) (fun _ h => h)
          · have hil := get_lt hx
            refine Pre.setB (t := 163) (c := true) rfl (decide_eq_true (by omega)) ?_
            refine l_q rfl (q_move rfl rfl) rfl rfl ?_
            refine l_q rfl (q_move rfl rfl) rfl rfl ?_
            refine l_q rfl (q_indexV i rfl Try.underlying49 Try.sizeOf4 rfl (fun _ h => hl.keep h (by simp [dom])) rfl rfl (by omega)) rfl rfl ?_
            refine l_q rfl (q_loadV i 0 rfl Try.isAgg4 rfl rfl (fun _ h => hl.keep h (by simp [dom])) hx rfl) rfl rfl ?_
            refine l_q rfl (q_pick_t rfl rfl rfl) rfl rfl ?_
            refine l_nil ?_
            refine k_then ?_
            refine Pre.setB (t := 168) (c := true) rfl (rfl) ?_
            refine c_true rfl ?_
            refine c_seq ?_
            refine c_region _ rfl ?_
            refine l_q rfl (q_move rfl rfl) rfl rfl ?_
            refine l_q rfl (q_move rfl rfl) rfl rfl ?_
            have hc := bits_in (l := l) (t := i) (by omega) hx
            refine l_e rfl ?_
            refine e_callH [] (qclaim hk154 (by omega) ((i : Int))) rfl rfl rfl Try.call22 rfl (fun _ _ => trivial) ?_
            rintro q161 ⟨hm162_, _, hk163⟩
            refine Pre.world (St _ _ (Q.H r36 q161)) (fun _ h => h) ?_
            have hm162 : q161.M = (lnB (bitsOf l) k (i + 1)) := by rw [hm162_, hm153]; exact lnB_claim hc
            refine Pre.setV (t := 171) (c := .bool true) rfl (by rw [hm153]; exact congrArg _ (x6 hc)) ?_
            refine l_q rfl (q_not rfl rfl) rfl rfl ?_
            refine l_nil ?_
            refine k_then ?_
            refine Pre.setB (t := 172) (c := false) rfl (rfl) ?_
            refine c_false rfl ?_
            refine c_skip ?_
            refine k_block ?_
            refine k_then ?_
            refine c_region _ rfl ?_
            refine l_q rfl (q_move rfl rfl) rfl rfl ?_
            refine l_q rfl (q_inc rfl rfl rfl (by omega)) rfl rfl ?_
            refine l_q rfl (q_assign rfl rfl) rfl rfl ?_
            refine l_nil ?_
            exact k_round ((i + 1, q161)) (by dsimp only; omega) ⟨by dsimp only; omega, hm162, by have h := hk163; rw [show 2 + k + 2 * i + 1 + 1 = 2 + k + 2 * (i + 1) by omega] at h; exact h⟩ (Sub.cons rfl (Sub.cons rfl (Sub.cons rfl (Sub.cons rfl (Sub.nil))))) (fun _ h => h)
        · try simp only [decide_eq_true_eq, decide_eq_false_iff_not, Bool.not_eq_true', Bool.not_eq_false'] at h147
          refine l_not rfl rfl rfl ?_
          refine l_not rfl rfl rfl ?_
          refine l_not rfl rfl rfl ?_
          refine l_not rfl rfl rfl ?_
          refine l_q rfl (q_pick_f rfl rfl rfl) rfl rfl ?_
          refine l_q rfl (q_pick_f rfl rfl rfl) rfl rfl ?_
          refine l_q rfl (q_move rfl rfl) rfl rfl ?_
          refine l_q rfl (q_move rfl rfl) rfl rfl ?_
          refine l_e rfl ?_
          refine e_callH [] (qpin hk147 (by omega) (6) (200) (i64_in (by decide) (by decide))) rfl rfl rfl Try.call12 rfl (fun _ _ => trivial) ?_
          rintro q164 ⟨hm165_, _, hk166⟩
          refine Pre.world (St _ _ (Q.H r36 q164)) (fun _ h => h) ?_
          have hm165 : q164.M = (lnP (lnM (bitsOf l) k i)) := by rw [hm165_, hm146]; rfl
          refine Pre.setV (t := 156) (c := .int .i64 4) rfl (by rw [hm146]; exact congrArg _ x5) ?_
          refine l_q rfl (q_neq rfl rfl rfl) rfl rfl ?_
          refine l_q rfl (q_pick_f rfl rfl rfl) rfl rfl ?_
          refine l_nil ?_
          refine k_then ?_
          refine Pre.setB (t := 158) (c := false) rfl (rfl) ?_
          refine c_false rfl ?_
          refine c_skip ?_
          refine k_then ?_
          refine c_seq ?_
          refine c_region _ rfl ?_
          refine l_q rfl (q_move rfl rfl) rfl rfl ?_
          refine l_q rfl (q_move rfl rfl) rfl rfl ?_
          refine l_q rfl (q_lenV rfl Try.underlying49 rfl (fun _ h => hl.keep h (by simp [dom]))) rfl rfl ?_
          refine l_q rfl (q_lss rfl rfl rfl) rfl rfl ?_
          refine l_q rfl (q_move rfl rfl) rfl rfl ?_
          rcases cur_cases l (i := i) with hx | hx | hx
          · refine Pre.setB (t := 163) (c := false) rfl (decide_eq_false (by omega)) ?_
            refine l_not rfl rfl rfl ?_
            refine l_not rfl rfl rfl ?_
            refine l_not rfl rfl rfl ?_
            refine l_not rfl rfl rfl ?_
            refine l_q rfl (q_pick_f rfl rfl rfl) rfl rfl ?_
            refine l_nil ?_
            refine k_then ?_
            refine c_false rfl ?_
            refine c_seq ?_
            refine c_region _ rfl ?_
            refine l_q rfl (q_move rfl rfl) rfl rfl ?_
            refine l_q rfl (q_move rfl rfl) rfl rfl ?_
            refine l_q rfl (q_move rfl rfl) rfl rfl ?_
            refine l_q rfl (q_add64 rfl rfl rfl (by omega)) rfl rfl ?_
            have hc := bits_out (l := l) (t := i) (by omega) hx
            refine l_e rfl ?_
            refine e_callH [] (qpin hk166 (by omega) ((i : Int)) (10 + (i : Int)) (i64_in (by omega) (by omega))) rfl rfl rfl Try.call12 rfl (fun _ _ => trivial) ?_
            rintro q167 ⟨hm168_, _, hk169⟩
            refine Pre.world (St _ _ (Q.H r36 q167)) (fun _ h => h) ?_
            have hm168 : q167.M = (lnB (bitsOf l) k (i + 1)) := by rw [hm168_, hm165]; exact lnB_pin hc
            refine Pre.setV (t := 177) (c := .int .i64 3) rfl (by rw [hm165]; exact congrArg _ (x7 hc)) ?_
            refine l_q rfl (q_neq rfl rfl rfl) rfl rfl ?_
            refine l_nil ?_
            refine k_then ?_
            refine Pre.setB (t := 178) (c := false) rfl (rfl) ?_
            refine c_false rfl ?_
            refine c_skip ?_
            refine k_block ?_
            refine k_then ?_
            refine c_region _ rfl ?_
            refine l_q rfl (q_move rfl rfl) rfl rfl ?_
            refine l_q rfl (q_inc rfl rfl rfl (by omega)) rfl rfl ?_
            refine l_q rfl (q_assign rfl rfl) rfl rfl ?_
            refine l_nil ?_
            exact k_round ((i + 1, q167)) (by dsimp only; omega) ⟨by dsimp only; omega, hm168, by have h := hk169; rw [show 2 + k + 2 * i + 1 + 1 = 2 + k + 2 * (i + 1) by omega] at h; exact h⟩ (Sub.cons rfl (Sub.cons rfl (Sub.cons rfl (Sub.cons rfl (Sub.nil))))) (fun _ h => h)
          · have hil := get_lt hx
            refine Pre.setB (t := 163) (c := true) rfl (decide_eq_true (by omega)) ?_
            refine l_q rfl (q_move rfl rfl) rfl rfl ?_
            refine l_q rfl (q_move rfl rfl) rfl rfl ?_
            refine l_q rfl (q_indexV i rfl Try.underlying49 Try.sizeOf4 rfl (fun _ h => hl.keep h (by simp [dom])) rfl rfl (by omega)) rfl rfl ?_
            refine l_q rfl (q_loadV i 0 rfl Try.isAgg4 rfl rfl (fun _ h => hl.keep h (by simp [dom])) hx rfl) rfl rfl ?_
            refine l_q rfl (q_pick_t rfl rfl rfl) rfl rfl ?_
            refine l_nil ?_
            refine k_then ?_
            refine Pre.setB (t := 168) (c := false) rfl (rfl) ?_
            refine c_false rfl ?_
            refine c_seq ?_
            refine c_region _ rfl ?_
            refine l_q rfl (q_move rfl rfl) rfl rfl ?_
            refine l_q rfl (q_move rfl rfl) rfl rfl ?_
            refine l_q rfl (q_move rfl rfl) rfl rfl ?_
            refine l_q rfl (q_add64 rfl rfl rfl (by omega)) rfl rfl ?_
            have hc := bits_in (l := l) (t := i) (by omega) hx
            refine l_e rfl ?_
            refine e_callH [] (qpin hk166 (by omega) ((i : Int)) (10 + (i : Int)) (i64_in (by omega) (by omega))) rfl rfl rfl Try.call12 rfl (fun _ _ => trivial) ?_
            rintro q170 ⟨hm171_, _, hk172⟩
            refine Pre.world (St _ _ (Q.H r36 q170)) (fun _ h => h) ?_
            have hm171 : q170.M = (lnB (bitsOf l) k (i + 1)) := by rw [hm171_, hm165]; exact lnB_pin hc
            refine Pre.setV (t := 177) (c := .int .i64 3) rfl (by rw [hm165]; exact congrArg _ (x7 hc)) ?_
            refine l_q rfl (q_neq rfl rfl rfl) rfl rfl ?_
            refine l_nil ?_
            refine k_then ?_
            refine Pre.setB (t := 178) (c := false) rfl (rfl) ?_
            refine c_false rfl ?_
            refine c_skip ?_
            refine k_block ?_
            refine k_then ?_
            refine c_region _ rfl ?_
            refine l_q rfl (q_move rfl rfl) rfl rfl ?_
            refine l_q rfl (q_inc rfl rfl rfl (by omega)) rfl rfl ?_
            refine l_q rfl (q_assign rfl rfl) rfl rfl ?_
            refine l_nil ?_
            exact k_round ((i + 1, q170)) (by dsimp only; omega) ⟨by dsimp only; omega, hm171, by have h := hk172; rw [show 2 + k + 2 * i + 1 + 1 = 2 + k + 2 * (i + 1) by omega] at h; exact h⟩ (Sub.cons rfl (Sub.cons rfl (Sub.cons rfl (Sub.cons rfl (Sub.nil))))) (fun _ h => h)
          · have hil := get_lt hx
            refine Pre.setB (t := 163) (c := true) rfl (decide_eq_true (by omega)) ?_
            refine l_q rfl (q_move rfl rfl) rfl rfl ?_
            refine l_q rfl (q_move rfl rfl) rfl rfl ?_
            refine l_q rfl (q_indexV i rfl Try.underlying49 Try.sizeOf4 rfl (fun _ h => hl.keep h (by simp [dom])) rfl rfl (by omega)) rfl rfl ?_
            refine l_q rfl (q_loadV i 0 rfl Try.isAgg4 rfl rfl (fun _ h => hl.keep h (by simp [dom])) hx rfl) rfl rfl ?_
            refine l_q rfl (q_pick_t rfl rfl rfl) rfl rfl ?_
            refine l_nil ?_
            refine k_then ?_
            refine Pre.setB (t := 168) (c := true) rfl (rfl) ?_
            refine c_true rfl ?_
            refine c_seq ?_
            refine c_region _ rfl ?_
            refine l_q rfl (q_move rfl rfl) rfl rfl ?_
            refine l_q rfl (q_move rfl rfl) rfl rfl ?_
            have hc := bits_in (l := l) (t := i) (by omega) hx
            refine l_e rfl ?_
            refine e_callH [] (qclaim hk166 (by omega) ((i : Int))) rfl rfl rfl Try.call22 rfl (fun _ _ => trivial) ?_
            rintro q173 ⟨hm174_, _, hk175⟩
            refine Pre.world (St _ _ (Q.H r36 q173)) (fun _ h => h) ?_
            have hm174 : q173.M = (lnB (bitsOf l) k (i + 1)) := by rw [hm174_, hm165]; exact lnB_claim hc
            refine Pre.setV (t := 171) (c := .bool true) rfl (by rw [hm165]; exact congrArg _ (x6 hc)) ?_
            refine l_q rfl (q_not rfl rfl) rfl rfl ?_
            refine l_nil ?_
            refine k_then ?_
            refine Pre.setB (t := 172) (c := false) rfl (rfl) ?_
            refine c_false rfl ?_
            refine c_skip ?_
            refine k_block ?_
            refine k_then ?_
            refine c_region _ rfl ?_
            refine l_q rfl (q_move rfl rfl) rfl rfl ?_
            refine l_q rfl (q_inc rfl rfl rfl (by omega)) rfl rfl ?_
            refine l_q rfl (q_assign rfl rfl) rfl rfl ?_
            refine l_nil ?_
            exact k_round ((i + 1, q173)) (by dsimp only; omega) ⟨by dsimp only; omega, hm174, by have h := hk175; rw [show 2 + k + 2 * i + 1 + 1 = 2 + k + 2 * (i + 1) by omega] at h; exact h⟩ (Sub.cons rfl (Sub.cons rfl (Sub.cons rfl (Sub.cons rfl (Sub.nil))))) (fun _ h => h)
      · have hcj : (bitsOf l) (i - 1) = true := by rw [show i - 1 = j by omega]; exact bits_in (by omega) hj
        have hjl := get_lt hj
        have hF : ¬ (0 < i ∧ (bitsOf l) (i - 1) = false) := by rw [hcj]; simp
        have hG : 0 < i ∧ (bitsOf l) (i - 1) = true := ⟨by omega, hcj⟩
        refine c_true rfl ?_
        refine c_skip ?_
        refine k_then ?_
        refine c_seq ?_
        refine c_block ?_
        refine c_seq ?_
        refine c_seq ?_
        refine c_region _ rfl ?_
        refine l_q rfl (q_move rfl rfl) rfl rfl ?_
        refine l_q rfl (q_gtr rfl rfl rfl) rfl rfl ?_
        refine l_q rfl (q_move rfl rfl) rfl rfl ?_
        refine Pre.setB (t := 80) (c := true) rfl (by first | exact decide_eq_true (by omega) | exact decide_eq_false (by omega)) ?_
        refine l_q rfl (q_move rfl rfl) rfl rfl ?_
        refine l_q rfl (q_sub64 rfl rfl rfl (by omega)) rfl rfl ?_
        refine l_q rfl (q_move rfl rfl) rfl rfl ?_
        refine l_q rfl (q_lenV rfl Try.underlying49 rfl (fun _ h => hl.keep h (by simp [dom]))) rfl rfl ?_
        refine l_q rfl (q_geq rfl rfl rfl) rfl rfl ?_
        refine l_q rfl (q_move rfl rfl) rfl rfl ?_
        refine Pre.setB (t := 86) (c := false) rfl (by first | exact decide_eq_true (by omega) | exact decide_eq_false (by omega)) ?_
        refine l_q rfl (q_move rfl rfl) rfl rfl ?_
        refine l_q rfl (q_move rfl rfl) rfl rfl ?_
        refine l_q rfl (q_sub64 rfl rfl rfl (by omega)) rfl rfl ?_
        refine l_q rfl (q_indexV j rfl Try.underlying49 Try.sizeOf4 rfl (fun _ h => hl.keep h (by simp)) rfl (by omega) (by omega)) rfl rfl ?_
        refine l_q rfl (q_loadV j 0 rfl Try.isAgg4 rfl rfl (fun _ h => hl.keep h (by simp [dom])) hj rfl) rfl rfl ?_
        refine l_q rfl (q_not rfl rfl) rfl rfl ?_
        refine l_q rfl (q_pick_f rfl rfl rfl) rfl rfl ?_
        refine l_q rfl (q_pick_t rfl rfl rfl) rfl rfl ?_
        refine l_nil ?_
        refine k_then ?_
        refine Pre.setB (t := 94) (c := false) rfl (rfl) ?_
        refine c_false rfl ?_
        refine c_skip ?_
        refine k_then ?_
        refine c_seq ?_
        refine c_seq ?_
        refine c_region _ rfl ?_
        refine l_q rfl (q_move rfl rfl) rfl rfl ?_
        refine l_q rfl (q_gtr rfl rfl rfl) rfl rfl ?_
        refine l_q rfl (q_move rfl rfl) rfl rfl ?_
        refine Pre.setB (t := 106) (c := true) rfl (by first | exact decide_eq_true (by omega) | exact decide_eq_false (by omega)) ?_
        refine l_q rfl (q_move rfl rfl) rfl rfl ?_
        refine l_q rfl (q_sub64 rfl rfl rfl (by omega)) rfl rfl ?_
        refine l_q rfl (q_move rfl rfl) rfl rfl ?_
        refine l_q rfl (q_lenV rfl Try.underlying49 rfl (fun _ h => hl.keep h (by simp [dom]))) rfl rfl ?_
        refine l_q rfl (q_lss rfl rfl rfl) rfl rfl ?_
        refine l_q rfl (q_pick_t rfl rfl rfl) rfl rfl ?_
        refine l_q rfl (q_move rfl rfl) rfl rfl ?_
        refine Pre.setB (t := 113) (c := true) rfl (by first | exact decide_eq_true (by omega) | exact decide_eq_false (by omega)) ?_
        refine l_q rfl (q_move rfl rfl) rfl rfl ?_
        refine l_q rfl (q_move rfl rfl) rfl rfl ?_
        refine l_q rfl (q_sub64 rfl rfl rfl (by omega)) rfl rfl ?_
        refine l_q rfl (q_indexV j rfl Try.underlying49 Try.sizeOf4 rfl (fun _ h => hl.keep h (by simp)) rfl (by omega) (by omega)) rfl rfl ?_
        refine l_q rfl (q_loadV j 0 rfl Try.isAgg4 rfl rfl (fun _ h => hl.keep h (by simp [dom])) hj rfl) rfl rfl ?_
        refine l_q rfl (q_pick_t rfl rfl rfl) rfl rfl ?_
        refine l_nil ?_
        refine k_then ?_
        refine Pre.setB (t := 119) (c := true) rfl (rfl) ?_
        refine c_true rfl ?_
        refine c_region _ rfl ?_
        refine l_q rfl (q_move rfl rfl) rfl rfl ?_
        refine l_q rfl (q_move rfl rfl) rfl rfl ?_
        refine l_q rfl (q_sub64 rfl rfl rfl (by omega)) rfl rfl ?_
        have hqF : q.M = lnF (bitsOf l) i (lnB (bitsOf l) k i) := by rw [hqM, lnF_no hF]
        refine l_e rfl ?_
        refine e_callH [] (qgive hqk (((i : Int) - 1))) rfl rfl rfl Try.call24 rfl (fun _ _ => trivial) ?_
        rintro q176 ⟨hm177_, _, hk178⟩
        refine Pre.world (St _ _ (Q.H r36 q176)) (fun _ h => h) ?_
        have hm177 : q176.M = (lnM (bitsOf l) k i) := by rw [hm177_, hqF]; exact lnM_give hG
        refine l_nil ?_
        refine k_then ?_
        refine c_seq ?_
        refine c_seq ?_
        refine c_region _ rfl ?_
        refine l_q rfl (q_move rfl rfl) rfl rfl ?_
        refine l_e rfl ?_
        refine e_callH [] (qfree hk178 ) rfl rfl rfl Try.call18 rfl (fun _ _ => trivial) ?_
        rintro _ _
        refine Pre.world (St _ _ (Q.H r36 q176)) (fun _ h => h) ?_
        refine Pre.setV (t := 134) (c := .int .i64 1) rfl (by rw [hm177]; exact congrArg _ (congrArg _ x2)) ?_
        refine l_q rfl (q_neq rfl rfl rfl) rfl rfl ?_
        refine l_q rfl (q_move rfl rfl) rfl rfl ?_
        refine Pre.setB (t := 136) (c := false) rfl (rfl) ?_
        refine l_q rfl (q_move rfl rfl) rfl rfl ?_
        refine l_q rfl (q_move rfl rfl) rfl rfl ?_
        refine l_e rfl ?_
        refine e_callH [] (qmay hk178 (i : Int)) rfl rfl rfl Try.call13 rfl (fun _ _ => trivial) ?_
        rintro _ _
        refine Pre.world (St _ _ (Q.H r36 q176)) (fun _ h => h) ?_
        refine Pre.setV (t := 139) (c := .bool true) rfl (by rw [hm177]; exact congrArg _ x3) ?_
        refine l_q rfl (q_not rfl rfl) rfl rfl ?_
        refine l_q rfl (q_pick_f rfl rfl rfl) rfl rfl ?_
        refine l_q rfl (q_move rfl rfl) rfl rfl ?_
        refine Pre.setB (t := 142) (c := false) rfl (rfl) ?_
        refine l_q rfl (q_move rfl rfl) rfl rfl ?_
        refine l_q rfl (q_inc rfl rfl rfl (by omega)) rfl rfl ?_
        refine l_q rfl (q_move rfl rfl) rfl rfl ?_
        refine l_q rfl (q_lss rfl rfl rfl) rfl rfl ?_
        refine l_q rfl (q_move rfl rfl) rfl rfl ?_
        refine Pre.caseB 147 rfl (fun h147 => ?_) (fun h147 => ?_)
        · try simp only [decide_eq_true_eq, decide_eq_false_iff_not, Bool.not_eq_true', Bool.not_eq_false'] at h147
          refine l_q rfl (q_move rfl rfl) rfl rfl ?_
          refine l_q rfl (q_move rfl rfl) rfl rfl ?_
          refine l_q rfl (q_inc rfl rfl rfl (by omega)) rfl rfl ?_
          refine l_e rfl ?_
          refine e_callH [] (qmay hk178 ((i : Int) + 1)) rfl rfl rfl Try.call13 rfl (fun _ _ => trivial) ?_
          rintro _ _
          refine Pre.world (St _ _ (Q.H r36 q176)) (fun _ h => h) ?_
          refine Pre.setV (t := 151) (c := .bool false) rfl (by rw [hm177]; exact congrArg _ (x4 (by omega))) ?_
          refine l_q rfl (q_pick_t rfl rfl rfl) rfl rfl ?_
          refine l_q rfl (q_pick_f rfl rfl rfl) rfl rfl ?_
          refine l_q rfl (q_move rfl rfl) rfl rfl ?_
          refine Pre.setB (t := 154) (c := false) rfl (rfl) ?_
          refine l_q rfl (q_move rfl rfl) rfl rfl ?_
          refine l_e rfl ?_
          refine e_callH [] (qpin hk178 (by omega) (6) (200) (i64_in (by decide) (by decide))) rfl rfl rfl Try.call12 rfl (fun _ _ => trivial) ?_
          rintro q179 ⟨hm180_, _, hk181⟩
          refine Pre.world (St _ _ (Q.H r36 q179)) (fun _ h => h) ?_
          have hm180 : q179.M = (lnP (lnM (bitsOf l) k i)) := by rw [hm180_, hm177]; rfl
          refine Pre.setV (t := 156) (c := .int .i64 4) rfl (by rw [hm177]; exact congrArg _ x5) ?_
          refine l_q rfl (q_neq rfl rfl rfl) rfl rfl ?_
          refine l_q rfl (q_pick_f rfl rfl rfl) rfl rfl ?_
          refine l_nil ?_
          refine k_then ?_
          refine Pre.setB (t := 158) (c := false) rfl (rfl) ?_
          refine c_false rfl ?_
          refine c_skip ?_
          refine k_then ?_
          refine c_seq ?_
          refine c_region _ rfl ?_
          refine l_q rfl (q_move rfl rfl) rfl rfl ?_
          refine l_q rfl (q_move rfl rfl) rfl rfl ?_
          refine l_q rfl (q_lenV rfl Try.underlying49 rfl (fun _ h => hl.keep h (by simp [dom]))) rfl rfl ?_
          refine l_q rfl (q_lss rfl rfl rfl) rfl rfl ?_
          refine l_q rfl (q_move rfl rfl) rfl rfl ?_
          rcases cur_cases l (i := i) with hx | hx | hx
          · refine Pre.setB (t := 163) (c := false) rfl (decide_eq_false (by omega)) ?_
            refine l_not rfl rfl rfl ?_
            refine l_not rfl rfl rfl ?_
            refine l_not rfl rfl rfl ?_
            refine l_not rfl rfl rfl ?_
            refine l_q rfl (q_pick_f rfl rfl rfl) rfl rfl ?_
            refine l_nil ?_
            refine k_then ?_
            refine c_false rfl ?_
            refine c_seq ?_
            refine c_region _ rfl ?_
            refine l_q rfl (q_move rfl rfl) rfl rfl ?_
            refine l_q rfl (q_move rfl rfl) rfl rfl ?_
            refine l_q rfl (q_move rfl rfl) rfl rfl ?_
            refine l_q rfl (q_add64 rfl rfl rfl (by omega)) rfl rfl ?_
            have hc := bits_out (l := l) (t := i) (by omega) hx
            refine l_e rfl ?_
            refine e_callH [] (qpin hk181 (by omega) ((i : Int)) (10 + (i : Int)) (i64_in (by omega) (by omega))) rfl rfl rfl Try.call12 rfl (fun _ _ => trivial) ?_
            rintro q182 ⟨hm183_, _, hk184⟩
            refine Pre.world (St _ _ (Q.H r36 q182)) (fun _ h => h) ?_
            have hm183 : q182.M = (lnB (bitsOf l) k (i + 1)) := by rw [hm183_, hm180]; exact lnB_pin hc
            refine Pre.setV (t := 177) (c := .int .i64 3) rfl (by rw [hm180]; exact congrArg _ (x7 hc)) ?_
            refine l_q rfl (q_neq rfl rfl rfl) rfl rfl ?_
            refine l_nil ?_
            refine k_then ?_
            refine Pre.setB (t := 178) (c := false) rfl (rfl) ?_
            refine c_false rfl ?_
            refine c_skip ?_
            refine k_block ?_
            refine k_then ?_
            refine c_region _ rfl ?_
            refine l_q rfl (q_move rfl rfl) rfl rfl ?_
            refine l_q rfl (q_inc rfl rfl rfl (by omega)) rfl rfl ?_
            refine l_q rfl (q_assign rfl rfl) rfl rfl ?_
            refine l_nil ?_
            exact k_round ((i + 1, q182)) (by dsimp only; omega) ⟨by dsimp only; omega, hm183, by have h := hk184; rw [show 2 + k + 2 * i + 1 + 1 = 2 + k + 2 * (i + 1) by omega] at h; exact h⟩ (Sub.cons rfl (Sub.cons rfl (Sub.cons rfl (Sub.cons rfl (Sub.nil))))) (fun _ h => h)
          · have hil := get_lt hx
            refine Pre.setB (t := 163) (c := true) rfl (decide_eq_true (by omega)) ?_
            refine l_q rfl (q_move rfl rfl) rfl rfl ?_
            refine l_q rfl (q_move rfl rfl) rfl rfl ?_
            refine l_q rfl (q_indexV i rfl Try.underlying49 Try.sizeOf4 rfl (fun _ h => hl.keep h (by simp [dom])) rfl rfl (by omega)) rfl rfl ?_
            refine l_q rfl (q_loadV i 0 rfl Try.isAgg4 rfl rfl (fun _ h => hl.keep h (by simp [dom])) hx rfl) rfl rfl ?_
            refine l_q rfl (q_pick_t rfl rfl rfl) rfl rfl ?_
            refine l_nil ?_
            refine k_then ?_
            refine Pre.setB (t := 168) (c := false) rfl (rfl) ?_
            refine c_false rfl ?_
            refine c_seq ?_
            refine c_region _ rfl ?_
            refine l_q rfl (q_move rfl rfl) rfl rfl ?_
            refine l_q rfl (q_move rfl rfl) rfl rfl ?_
            refine l_q rfl (q_move rfl rfl) rfl rfl ?_
            refine l_q rfl (q_add64 rfl rfl rfl (by omega)) rfl rfl ?_
            have hc := bits_in (l := l) (t := i) (by omega) hx
            refine l_e rfl ?_
            refine e_callH [] (qpin hk181 (by omega) ((i : Int)) (10 + (i : Int)) (i64_in (by omega) (by omega))) rfl rfl rfl Try.call12 rfl (fun _ _ => trivial) ?_
            rintro q185 ⟨hm186_, _, hk187⟩
            refine Pre.world (St _ _ (Q.H r36 q185)) (fun _ h => h) ?_
            have hm186 : q185.M = (lnB (bitsOf l) k (i + 1)) := by rw [hm186_, hm180]; exact lnB_pin hc
            refine Pre.setV (t := 177) (c := .int .i64 3) rfl (by rw [hm180]; exact congrArg _ (x7 hc)) ?_
            refine l_q rfl (q_neq rfl rfl rfl) rfl rfl ?_
            refine l_nil ?_
            refine k_then ?_
            refine Pre.setB (t := 178) (c := false) rfl (rfl) ?_
            refine c_false rfl ?_
            refine c_skip ?_
            refine k_block ?_
            refine k_then ?_
            refine c_region _ rfl ?_
            refine l_q rfl (q_move rfl rfl) rfl rfl ?_
            refine l_q rfl (q_inc rfl rfl rfl (by omega)) rfl rfl ?_
            refine l_q rfl (q_assign rfl rfl) rfl rfl ?_
            refine l_nil ?_
            exact k_round ((i + 1, q185)) (by dsimp only; omega) ⟨by dsimp only; omega, hm186, by have h := hk187; rw [show 2 + k + 2 * i + 1 + 1 = 2 + k + 2 * (i + 1) by omega] at h; exact h⟩ (Sub.cons rfl (Sub.cons rfl (Sub.cons rfl (Sub.cons rfl (Sub.nil))))) (fun _ h => h)
          · have hil := get_lt hx
            refine Pre.setB (t := 163) (c := true) rfl (decide_eq_true (by omega)) ?_
            refine l_q rfl (q_move rfl rfl) rfl rfl ?_
            refine l_q rfl (q_move rfl rfl) rfl rfl ?_
            refine l_q rfl (q_indexV i rfl Try.underlying49 Try.sizeOf4 rfl (fun _ h => hl.keep h (by simp [dom])) rfl rfl (by omega)) rfl rfl ?_
            refine l_q rfl (q_loadV i 0 rfl Try.isAgg4 rfl rfl (fun _ h => hl.keep h (by simp [dom])) hx rfl) rfl rfl ?_
            refine l_q rfl (q_pick_t rfl rfl rfl) rfl rfl ?_
            refine l_nil ?_
            refine k_then ?_
            refine Pre.setB (t := 168) (c := true) rfl (rfl) ?_
            refine c_true rfl ?_
            refine c_seq ?_
            refine c_region _ rfl ?_
            refine l_q rfl (q_move rfl rfl) rfl rfl ?_
            refine l_q rfl (q_move rfl rfl) rfl rfl ?_
            have hc := bits_in (l := l) (t := i) (by omega) hx
            refine l_e rfl ?_
            refine e_callH [] (qclaim hk181 (by omega) ((i : Int))) rfl rfl rfl Try.call22 rfl (fun _ _ => trivial) ?_
            rintro q188 ⟨hm189_, _, hk190⟩
            refine Pre.world (St _ _ (Q.H r36 q188)) (fun _ h => h) ?_
            have hm189 : q188.M = (lnB (bitsOf l) k (i + 1)) := by rw [hm189_, hm180]; exact lnB_claim hc
            refine Pre.setV (t := 171) (c := .bool true) rfl (by rw [hm180]; exact congrArg _ (x6 hc)) ?_
            refine l_q rfl (q_not rfl rfl) rfl rfl ?_
            refine l_nil ?_
            refine k_then ?_
            refine Pre.setB (t := 172) (c := false) rfl (rfl) ?_
            refine c_false rfl ?_
            refine c_skip ?_
            refine k_block ?_
            refine k_then ?_
            refine c_region _ rfl ?_
            refine l_q rfl (q_move rfl rfl) rfl rfl ?_
            refine l_q rfl (q_inc rfl rfl rfl (by omega)) rfl rfl ?_
            refine l_q rfl (q_assign rfl rfl) rfl rfl ?_
            refine l_nil ?_
            exact k_round ((i + 1, q188)) (by dsimp only; omega) ⟨by dsimp only; omega, hm189, by have h := hk190; rw [show 2 + k + 2 * i + 1 + 1 = 2 + k + 2 * (i + 1) by omega] at h; exact h⟩ (Sub.cons rfl (Sub.cons rfl (Sub.cons rfl (Sub.cons rfl (Sub.nil))))) (fun _ h => h)
        · try simp only [decide_eq_true_eq, decide_eq_false_iff_not, Bool.not_eq_true', Bool.not_eq_false'] at h147
          refine l_not rfl rfl rfl ?_
          refine l_not rfl rfl rfl ?_
          refine l_not rfl rfl rfl ?_
          refine l_not rfl rfl rfl ?_
          refine l_q rfl (q_pick_f rfl rfl rfl) rfl rfl ?_
          refine l_q rfl (q_pick_f rfl rfl rfl) rfl rfl ?_
          refine l_q rfl (q_move rfl rfl) rfl rfl ?_
          refine l_q rfl (q_move rfl rfl) rfl rfl ?_
          refine l_e rfl ?_
          refine e_callH [] (qpin hk178 (by omega) (6) (200) (i64_in (by decide) (by decide))) rfl rfl rfl Try.call12 rfl (fun _ _ => trivial) ?_
          rintro q191 ⟨hm192_, _, hk193⟩
          refine Pre.world (St _ _ (Q.H r36 q191)) (fun _ h => h) ?_
          have hm192 : q191.M = (lnP (lnM (bitsOf l) k i)) := by rw [hm192_, hm177]; rfl
          refine Pre.setV (t := 156) (c := .int .i64 4) rfl (by rw [hm177]; exact congrArg _ x5) ?_
          refine l_q rfl (q_neq rfl rfl rfl) rfl rfl ?_
          refine l_q rfl (q_pick_f rfl rfl rfl) rfl rfl ?_
          refine l_nil ?_
          refine k_then ?_
          refine Pre.setB (t := 158) (c := false) rfl (rfl) ?_
          refine c_false rfl ?_
          refine c_skip ?_
          refine k_then ?_
          refine c_seq ?_
          refine c_region _ rfl ?_
          refine l_q rfl (q_move rfl rfl) rfl rfl ?_
          refine l_q rfl (q_move rfl rfl) rfl rfl ?_
          refine l_q rfl (q_lenV rfl Try.underlying49 rfl (fun _ h => hl.keep h (by simp [dom]))) rfl rfl ?_
          refine l_q rfl (q_lss rfl rfl rfl) rfl rfl ?_
          refine l_q rfl (q_move rfl rfl) rfl rfl ?_
          rcases cur_cases l (i := i) with hx | hx | hx
          · refine Pre.setB (t := 163) (c := false) rfl (decide_eq_false (by omega)) ?_
            refine l_not rfl rfl rfl ?_
            refine l_not rfl rfl rfl ?_
            refine l_not rfl rfl rfl ?_
            refine l_not rfl rfl rfl ?_
            refine l_q rfl (q_pick_f rfl rfl rfl) rfl rfl ?_
            refine l_nil ?_
            refine k_then ?_
            refine c_false rfl ?_
            refine c_seq ?_
            refine c_region _ rfl ?_
            refine l_q rfl (q_move rfl rfl) rfl rfl ?_
            refine l_q rfl (q_move rfl rfl) rfl rfl ?_
            refine l_q rfl (q_move rfl rfl) rfl rfl ?_
            refine l_q rfl (q_add64 rfl rfl rfl (by omega)) rfl rfl ?_
            have hc := bits_out (l := l) (t := i) (by omega) hx
            refine l_e rfl ?_
            refine e_callH [] (qpin hk193 (by omega) ((i : Int)) (10 + (i : Int)) (i64_in (by omega) (by omega))) rfl rfl rfl Try.call12 rfl (fun _ _ => trivial) ?_
            rintro q194 ⟨hm195_, _, hk196⟩
            refine Pre.world (St _ _ (Q.H r36 q194)) (fun _ h => h) ?_
            have hm195 : q194.M = (lnB (bitsOf l) k (i + 1)) := by rw [hm195_, hm192]; exact lnB_pin hc
            refine Pre.setV (t := 177) (c := .int .i64 3) rfl (by rw [hm192]; exact congrArg _ (x7 hc)) ?_
            refine l_q rfl (q_neq rfl rfl rfl) rfl rfl ?_
            refine l_nil ?_
            refine k_then ?_
            refine Pre.setB (t := 178) (c := false) rfl (rfl) ?_
            refine c_false rfl ?_
            refine c_skip ?_
            refine k_block ?_
            refine k_then ?_
            refine c_region _ rfl ?_
            refine l_q rfl (q_move rfl rfl) rfl rfl ?_
            refine l_q rfl (q_inc rfl rfl rfl (by omega)) rfl rfl ?_
            refine l_q rfl (q_assign rfl rfl) rfl rfl ?_
            refine l_nil ?_
            exact k_round ((i + 1, q194)) (by dsimp only; omega) ⟨by dsimp only; omega, hm195, by have h := hk196; rw [show 2 + k + 2 * i + 1 + 1 = 2 + k + 2 * (i + 1) by omega] at h; exact h⟩ (Sub.cons rfl (Sub.cons rfl (Sub.cons rfl (Sub.cons rfl (Sub.nil))))) (fun _ h => h)
          · have hil := get_lt hx
            refine Pre.setB (t := 163) (c := true) rfl (decide_eq_true (by omega)) ?_
            refine l_q rfl (q_move rfl rfl) rfl rfl ?_
            refine l_q rfl (q_move rfl rfl) rfl rfl ?_
            refine l_q rfl (q_indexV i rfl Try.underlying49 Try.sizeOf4 rfl (fun _ h => hl.keep h (by simp [dom])) rfl rfl (by omega)) rfl rfl ?_
            refine l_q rfl (q_loadV i 0 rfl Try.isAgg4 rfl rfl (fun _ h => hl.keep h (by simp [dom])) hx rfl) rfl rfl ?_
            refine l_q rfl (q_pick_t rfl rfl rfl) rfl rfl ?_
            refine l_nil ?_
            refine k_then ?_
            refine Pre.setB (t := 168) (c := false) rfl (rfl) ?_
            refine c_false rfl ?_
            refine c_seq ?_
            refine c_region _ rfl ?_
            refine l_q rfl (q_move rfl rfl) rfl rfl ?_
            refine l_q rfl (q_move rfl rfl) rfl rfl ?_
            refine l_q rfl (q_move rfl rfl) rfl rfl ?_
            refine l_q rfl (q_add64 rfl rfl rfl (by omega)) rfl rfl ?_
            have hc := bits_in (l := l) (t := i) (by omega) hx
            refine l_e rfl ?_
            refine e_callH [] (qpin hk193 (by omega) ((i : Int)) (10 + (i : Int)) (i64_in (by omega) (by omega))) rfl rfl rfl Try.call12 rfl (fun _ _ => trivial) ?_
            rintro q197 ⟨hm198_, _, hk199⟩
            refine Pre.world (St _ _ (Q.H r36 q197)) (fun _ h => h) ?_
            have hm198 : q197.M = (lnB (bitsOf l) k (i + 1)) := by rw [hm198_, hm192]; exact lnB_pin hc
            refine Pre.setV (t := 177) (c := .int .i64 3) rfl (by rw [hm192]; exact congrArg _ (x7 hc)) ?_
            refine l_q rfl (q_neq rfl rfl rfl) rfl rfl ?_
            refine l_nil ?_
            refine k_then ?_
            refine Pre.setB (t := 178) (c := false) rfl (rfl) ?_
            refine c_false rfl ?_
            refine c_skip ?_
            refine k_block ?_
            refine k_then ?_
            refine c_region _ rfl ?_
            refine l_q rfl (q_move rfl rfl) rfl rfl ?_
            refine l_q rfl (q_inc rfl rfl rfl (by omega)) rfl rfl ?_
            refine l_q rfl (q_assign rfl rfl) rfl rfl ?_
            refine l_nil ?_
            exact k_round ((i + 1, q197)) (by dsimp only; omega) ⟨by dsimp only; omega, hm198, by have h := hk199; rw [show 2 + k + 2 * i + 1 + 1 = 2 + k + 2 * (i + 1) by omega] at h; exact h⟩ (Sub.cons rfl (Sub.cons rfl (Sub.cons rfl (Sub.cons rfl (Sub.nil))))) (fun _ h => h)
          · have hil := get_lt hx
            refine Pre.setB (t := 163) (c := true) rfl (decide_eq_true (by omega)) ?_
            refine l_q rfl (q_move rfl rfl) rfl rfl ?_
            refine l_q rfl (q_move rfl rfl) rfl rfl ?_
            refine l_q rfl (q_indexV i rfl Try.underlying49 Try.sizeOf4 rfl (fun _ h => hl.keep h (by simp [dom])) rfl rfl (by omega)) rfl rfl ?_
            refine l_q rfl (q_loadV i 0 rfl Try.isAgg4 rfl rfl (fun _ h => hl.keep h (by simp [dom])) hx rfl) rfl rfl ?_
            refine l_q rfl (q_pick_t rfl rfl rfl) rfl rfl ?_
            refine l_nil ?_
            refine k_then ?_
            refine Pre.setB (t := 168) (c := true) rfl (rfl) ?_
            refine c_true rfl ?_
            refine c_seq ?_
            refine c_region _ rfl ?_
            refine l_q rfl (q_move rfl rfl) rfl rfl ?_
            refine l_q rfl (q_move rfl rfl) rfl rfl ?_
            have hc := bits_in (l := l) (t := i) (by omega) hx
            refine l_e rfl ?_
            refine e_callH [] (qclaim hk193 (by omega) ((i : Int))) rfl rfl rfl Try.call22 rfl (fun _ _ => trivial) ?_
            rintro q200 ⟨hm201_, _, hk202⟩
            refine Pre.world (St _ _ (Q.H r36 q200)) (fun _ h => h) ?_
            have hm201 : q200.M = (lnB (bitsOf l) k (i + 1)) := by rw [hm201_, hm192]; exact lnB_claim hc
            refine Pre.setV (t := 171) (c := .bool true) rfl (by rw [hm192]; exact congrArg _ (x6 hc)) ?_
            refine l_q rfl (q_not rfl rfl) rfl rfl ?_
            refine l_nil ?_
            refine k_then ?_
            refine Pre.setB (t := 172) (c := false) rfl (rfl) ?_
            refine c_false rfl ?_
            refine c_skip ?_
            refine k_block ?_
            refine k_then ?_
            refine c_region _ rfl ?_
            refine l_q rfl (q_move rfl rfl) rfl rfl ?_
            refine l_q rfl (q_inc rfl rfl rfl (by omega)) rfl rfl ?_
            refine l_q rfl (q_assign rfl rfl) rfl rfl ?_
            refine l_nil ?_
            exact k_round ((i + 1, q200)) (by dsimp only; omega) ⟨by dsimp only; omega, hm201, by have h := hk202; rw [show 2 + k + 2 * i + 1 + 1 = 2 + k + 2 * (i + 1) by omega] at h; exact h⟩ (Sub.cons rfl (Sub.cons rfl (Sub.cons rfl (Sub.cons rfl (Sub.nil))))) (fun _ h => h)
    · try simp only [decide_eq_true_eq, decide_eq_false_iff_not, Bool.not_eq_true', Bool.not_eq_false'] at h2i
      have hik : i = k := by omega
      subst hik
      refine c_false rfl ?_
      refine c_exit ?_
      refine k_then_exit ?_
      refine k_then_exit ?_
      refine k_block_exit ?_
      refine k_then ?_
      refine c_seq ?_
      refine c_region _ rfl ?_
      refine l_q rfl (q_move rfl rfl) rfl rfl ?_
      refine l_e rfl ?_
      refine e_callH [] (qline hqk) rfl rfl rfl Try.call23 rfl (fun _ _ => trivial) ?_
      rintro v203 _
      refine Pre.world (St _ _ (_ :: Q.H r36 q)) (fun _ h => h) ?_
      refine row_eq (show _ = ((lnB (bitsOf l) i i).line.map Prod.fst) from by rw [hqM]; try rfl) ?_
      refine l_q rfl (q_lenV rfl Try.underlying28 rfl (fun _ h => h.rd 0 rfl)) rfl rfl ?_
      refine l_q rfl (q_eql rfl rfl rfl) rfl rfl ?_
      refine l_q rfl (q_move rfl rfl) rfl rfl ?_
      refine Pre.setB (t := 183) (c := true) rfl (by simp [hk3]) ?_
      refine l_e rfl ?_
      refine e_call_00 (awake_spec) rfl rfl rfl Try.call15 rfl (fun _ _ => trivial) ?_
      intro _ _
      refine l_q rfl (q_pick_t rfl rfl rfl) rfl rfl ?_
      refine l_q rfl (q_assign rfl rfl) rfl rfl ?_
      refine l_nil ?_
      refine k_then ?_
      refine c_ret ?_
      refine r_one rfl rfl ?_
      exact fun _ h => ⟨(), rfl, trivial, h.nothing⟩
theorem cacheLine_walk (w : World) (a0 : Int) (w0 : (Lit.int .u8 a0).wf = true) (A1 : Option Addr) (c1 : Nat) (z1 : List Bool) (rd1 : Rd w w.heap.size A1 (z1.map .bool)) (l1 : z1.length ≤ c1) (m1 : c1 ≤ maxLen) :
    Calls Try.prog 5 #[.int .u8 a0, .slice A1 z1.length c1] w fun e w' => e = .returned (.bool true) ∧ Below w.heap.size w w' := by
  have h := flat_one' encB Value.bool (fun _ => rfl) z1
  rw [← h] at rd1
  exact con_walk (line_law a0 w0 z1) (rdv_of rd1 l1)
end Go.Proofs.Ytpfbagkjhchojaa
