/- CacheClock, walked -/
import Derived.Test.YtpfbagkjhchojaaWk
import Derived.Test.YtpfbagkjhchojaaS9
set_option linter.unusedVariables false
set_option linter.unusedSimpArgs false
namespace Go.Proofs.Ytpfbagkjhchojaa
open Go.Sep Go.RowKit

set_option maxRecDepth 100000 in
set_option maxHeartbeats 1000000 in
theorem clock_spec {va : Value} (l : List Int) (hu : ∀ x ∈ l, (Lit.int .u8 x).wf = true) (n : Int) (hn : (Lit.int .u8 n).wf = true) : Con Try.prog 4 [va, .int .u8 n] (fun w => RdV w va (encI .u8) l) [] (fun _ : Unit => .bool true) (fun _ => True) (fun _ => []) := by
  intro w hl hH
  obtain ⟨hn0, hn1⟩ := wf_u8 hn
  refine enter (n := 190) (vs := [va, .int .u8 n]) (St w [] []) Try.func4 rfl rfl rfl (St.init hH) ?_
  refine c_seq ?_
  refine c_region _ rfl ?_
  refine l_q rfl (q_assign rfl rfl) rfl rfl ?_
  refine l_nil ?_
  refine k_then ?_
  refine c_seq ?_
  refine c_region _ rfl ?_
  refine l_e rfl ?_
  refine e_callH [] (HA := []) (qnew 6 (by decide) (by decide)) rfl rfl rfl Try.call9 rfl (fun _ _ => trivial) ?_
  rintro ⟨r36, r36_⟩ ⟨hm37, hg38, hk39⟩
  dsimp only at hm37 hg38 hk39
  refine Pre.world (St _ _ (Q.H r36 r36_)) (fun _ h => h) ?_
  refine l_q rfl (q_move rfl rfl) rfl rfl ?_
  refine l_q rfl (q_extract rfl rfl rfl) rfl rfl ?_
  refine l_q rfl (q_extract rfl rfl rfl) rfl rfl ?_
  refine l_q rfl (q_assign rfl rfl) rfl rfl ?_
  refine l_q rfl (q_assign rfl rfl) rfl rfl ?_
  refine l_nil ?_
  refine k_then ?_
  refine c_seq ?_
  refine c_seq ?_
  refine c_region _ rfl ?_
  refine l_q rfl (q_move rfl rfl) rfl rfl ?_
  refine l_q rfl (q_neq rfl rfl rfl) rfl rfl ?_
  refine l_q rfl (q_move rfl rfl) rfl rfl ?_
  refine Pre.setB (t := 34) (c := false) rfl (rfl) ?_
  refine l_q rfl (q_move rfl rfl) rfl rfl ?_
  refine l_q rfl (q_eqp rfl Try.underlying23 rfl rfl) rfl rfl ?_
  refine l_q rfl (q_pick_f rfl rfl rfl) rfl rfl ?_
  refine l_nil ?_
  refine k_then ?_
  refine Pre.setB (t := 37) (c := false) rfl (rfl) ?_
  refine c_false rfl ?_
  refine c_skip ?_
  refine k_then ?_
  refine c_seq ?_
  refine c_seq ?_
  refine c_region _ rfl ?_
  refine l_q rfl (q_assign rfl rfl) rfl rfl ?_
  refine l_nil ?_
  refine k_then ?_
  refine c_block ?_
  refine c_loop2 (fun (i : Nat) (q : Q) => [(0, va), (1, .int .u8 n), (5, .pointer (some ⟨r36, 0, none⟩)), (7, .int .i64 (i : Int))]) (fun (i : Nat) (q : Q) => St w [] (Q.H r36 q)) (fun (i : Nat) (q : Q) => i ≤ 6 ∧ q.M = ckI i ∧ q.Ok i) (fun (i : Nat) (q : Q) => 6 - i) (0) (r36_) ⟨Nat.zero_le _, hm37, hk39⟩ (Sub.cons rfl (Sub.cons rfl (Sub.cons rfl (Sub.cons rfl (Sub.nil))))) (fun _ h => h) ?_
  intro i q hp
  refine c_seq ?_
  refine c_seq ?_
  obtain ⟨hi, hqM, hqk⟩ := hp
  refine c_region _ rfl ?_
  refine l_q rfl (q_move rfl rfl) rfl rfl ?_
  refine l_q rfl (q_lss rfl rfl rfl) rfl rfl ?_
  refine l_nil ?_
  refine k_then ?_
  refine Pre.caseB 39 rfl (fun h1 => ?_) (fun h1 => ?_)
  · try simp only [decide_eq_true_eq, decide_eq_false_iff_not, Bool.not_eq_true', Bool.not_eq_false'] at h1
    refine c_true rfl ?_
    refine c_skip ?_
    refine k_then ?_
    refine c_seq ?_
    refine c_block ?_
    refine c_seq ?_
    refine c_seq ?_
    refine c_region _ rfl ?_
    refine l_q rfl (q_move rfl rfl) rfl rfl ?_
    refine l_q rfl (q_move rfl rfl) rfl rfl ?_
    refine l_e rfl ?_
    refine e_callH [] (qpin hqk (by omega) (0) ((i : Int)) (i64_in (by omega) (by omega))) rfl rfl rfl Try.call12 rfl (fun _ _ => trivial) ?_
    rintro q40 ⟨hm41_, _, hk42⟩
    refine Pre.world (St _ _ (Q.H r36 q40)) (fun _ h => h) ?_
    have hm41 : q40.M = ((ckI i).pin 0 (i : Int)).2 := by rw [hm41_, hqM]
    refine Pre.setV (t := 44) (c := .int .i64 3) rfl (by rw [hqM]; exact congrArg _ (ckI_pin (by omega))) ?_
    refine l_q rfl (q_neq rfl rfl rfl) rfl rfl ?_
    refine l_nil ?_
    refine k_then ?_
    refine Pre.setB (t := 45) (c := false) rfl (rfl) ?_
    refine c_false rfl ?_
    refine c_skip ?_
    refine k_then ?_
    refine c_seq ?_
    refine c_region _ rfl ?_
    refine l_q rfl (q_move rfl rfl) rfl rfl ?_
    refine l_q rfl (q_move rfl rfl) rfl rfl ?_
    refine l_q rfl (q_build (nvL.c) rfl rfl (fun w => by kernel_rfl)) rfl rfl ?_
    refine row0 121 En.enc none ?_
    refine Pre.world (St _ _ (nrow nvL :: _)) (fun _ h => h) ?_
    refine l_e rfl ?_
    refine e_callH [] (qfill hk42 nvL (by show 0 ≤ 1000; decide) (i : Int)) rfl rfl rfl Try.call14 rfl (fun _ _ => trivial) ?_
    rintro ⟨q43, v44⟩ ⟨hm45_, _, hk46⟩
    refine Pre.world (St _ _ (rowE v44 3 (encI .i64) (q40.M.fill (i : Int) nvL.leaf nvL.l).1.1 :: nrow nvL :: Q.H r36 q43)) (fun _ h => h) ?_
    dsimp only at hm45_ hk46
    have hm45 : q43.M = (((ckI i).pin 0 (i : Int)).2.fill (i : Int) nvL.leaf nvL.l).2 := by rw [hm45_, hm41]
    have ht47 : (q40.M.fill (i : Int) nvL.leaf nvL.l).1 = ((((ckI i).pin 0 (i : Int)).2.fill (i : Int) nvL.leaf nvL.l).1.1, (((ckI i).pin 0 (i : Int)).2.fill (i : Int) nvL.leaf nvL.l).1.2) := by rw [hm41]; try rfl
    refine row_eq (show _ = (((ckI i).pin 0 (i : Int)).2.fill (i : Int) nvL.leaf nvL.l).1.1 from congrArg Prod.fst ht47) ?_
    refine Pre.setV (t := 49) (c := .tuple #[v44, .bool (((ckI i).pin 0 (i : Int)).2.fill (i : Int) nvL.leaf nvL.l).1.2]) rfl (by rw [congrArg Prod.snd ht47]) ?_
    refine l_nil ?_
    refine k_then ?_
    refine c_region _ rfl ?_
    refine l_q rfl (q_move rfl rfl) rfl rfl ?_
    refine l_q rfl (q_move rfl rfl) rfl rfl ?_
    refine drop0 ?_
    refine drop0 ?_
    refine l_e rfl ?_
    refine e_callH [] (qunpin hk46 ((i : Int))) rfl rfl rfl Try.call19 rfl (fun _ _ => trivial) ?_
    rintro q48 ⟨hm49_, _, hk50⟩
    refine Pre.world (St _ _ (Q.H r36 q48)) (fun _ h => h) ?_
    have hm49 : q48.M = (ckI (i + 1)) := by rw [hm49_, hm45]; try rfl
    refine l_nil ?_
    refine k_block ?_
    refine k_then ?_
    refine c_region _ rfl ?_
    refine l_q rfl (q_move rfl rfl) rfl rfl ?_
    refine l_q rfl (q_inc rfl rfl rfl (by omega)) rfl rfl ?_
    refine l_q rfl (q_assign rfl rfl) rfl rfl ?_
    refine l_nil ?_
    exact k_round ((i + 1, q48)) (by dsimp only; omega) ⟨by dsimp only; omega, hm49, hk50⟩ (Sub.cons rfl (Sub.cons rfl (Sub.cons rfl (Sub.cons rfl (Sub.nil))))) (fun _ h => h)
  · try simp only [decide_eq_true_eq, decide_eq_false_iff_not, Bool.not_eq_true', Bool.not_eq_false'] at h1
    have hi6 : i = 6 := by omega
    subst hi6
    refine c_false rfl ?_
    refine c_exit ?_
    refine k_then_exit ?_
    refine k_then_exit ?_
    refine k_block_exit ?_
    refine k_then ?_
    refine c_seq ?_
    refine c_region _ rfl ?_
    refine l_q rfl (q_move rfl rfl) rfl rfl ?_
    refine l_e rfl ?_
    refine e_callH [] (qevict hqk) rfl rfl rfl Try.call20 rfl (fun _ _ => trivial) ?_
    rintro ⟨q51, en52⟩ ⟨hm53_, hg58, hk54, hi56, hx55⟩
    refine Pre.world (St _ _ (Q.H r36 q51)) (fun _ h => h) ?_
    dsimp only at hm53_ hk54 hi56 hx55 hg58
    rw [← hg58] at hi56
    have hm53 : q51.M = ck1 := by rw [hm53_, hqM]; try rfl
    have he57 : q.M.evict.1 = (some (ckV 0 true)) := by rw [hqM]; exact ck_ev
    rw [he57] at hx55
    refine Pre.setV (t := 55) (c := evV (some (ckV 0 true)) en52) rfl (by rw [he57]) ?_
    refine l_q rfl (q_move rfl rfl) rfl rfl ?_
    refine l_q rfl (q_extract rfl rfl rfl) rfl rfl ?_
    refine l_q rfl (q_extract rfl rfl rfl) rfl rfl ?_
    refine l_q rfl (q_extract rfl rfl rfl) rfl rfl ?_
    refine l_q rfl (q_extract rfl rfl rfl) rfl rfl ?_
    refine l_e rfl ?_
    refine e_alloc rfl rfl rfl Try.zeroValue37 ?_
    intro bz
    refine cells_eq (show _ = nv0.c from rfl) ?_
    refine l_q rfl (q_assign rfl rfl) rfl rfl ?_
    refine l_e rfl ?_
    refine e_storeAgg rfl rfl Try.sizeOf37 rfl rfl rfl (NV.one _) (by show 0 + 5 ≤ 5; decide) ?_
    refine cells_eq (show Sep.splice _ 0 (en52).c = (en52).c from Sep.splice_all rfl) ?_
    refine l_q rfl (q_assign rfl rfl) rfl rfl ?_
    refine l_q rfl (q_assign rfl rfl) rfl rfl ?_
    refine l_nil ?_
    refine k_then ?_
    refine c_seq ?_
    refine c_seq ?_
    refine c_region _ rfl ?_
    refine l_q rfl (q_move rfl rfl) rfl rfl ?_
    refine l_q rfl (q_not rfl rfl) rfl rfl ?_
    refine l_q rfl (q_move rfl rfl) rfl rfl ?_
    refine drop0 ?_
    refine Pre.setB (t := 62) (c := false) rfl (rfl) ?_
    refine l_q rfl (q_move rfl rfl) rfl rfl ?_
    refine l_q rfl (q_neq rfl rfl rfl) rfl rfl ?_
    refine l_q rfl (q_pick_f rfl rfl rfl) rfl rfl ?_
    refine l_q rfl (q_move rfl rfl) rfl rfl ?_
    refine Pre.setB (t := 66) (c := false) rfl (rfl) ?_
    refine l_q rfl (q_move rfl rfl) rfl rfl ?_
    refine l_e rfl ?_
    refine e_callH [] (qpin hk54 (by omega) (0) (0) (i64_in (by decide) (by decide))) rfl rfl rfl Try.call12 rfl (fun _ _ => trivial) ?_
    rintro q59 ⟨hm60_, _, hk61⟩
    refine Pre.world (St _ _ (Q.H r36 q59)) (fun _ h => h) ?_
    have hm60 : q59.M = (ck1.pin 0 0).2 := by rw [hm60_, hm53]
    refine Pre.setV (t := 68) (c := .int .i64 3) rfl (by rw [hm53]; exact congrArg _ ck_pin0) ?_
    refine l_q rfl (q_neq rfl rfl rfl) rfl rfl ?_
    refine l_q rfl (q_pick_f rfl rfl rfl) rfl rfl ?_
    refine l_nil ?_
    refine k_then ?_
    refine Pre.setB (t := 70) (c := false) rfl (rfl) ?_
    refine c_false rfl ?_
    refine c_skip ?_
    refine k_then ?_
    refine c_seq ?_
    refine c_region _ rfl ?_
    refine l_q rfl (q_move rfl rfl) rfl rfl ?_
    refine l_q rfl (q_build (nvL.c) rfl rfl (fun w => by kernel_rfl)) rfl rfl ?_
    refine row0 121 En.enc none ?_
    refine Pre.world (St _ _ (nrow nvL :: _)) (fun _ h => h) ?_
    refine l_e rfl ?_
    refine e_callH [] (qfill hk61 nvL (by show 0 ≤ 1000; decide) 0) rfl rfl rfl Try.call14 rfl (fun _ _ => trivial) ?_
    rintro ⟨q62, v63⟩ ⟨hm64_, _, hk65⟩
    refine Pre.world (St _ _ (rowE v63 3 (encI .i64) (q59.M.fill 0 nvL.leaf nvL.l).1.1 :: nrow nvL :: Q.H r36 q62)) (fun _ h => h) ?_
    dsimp only at hm64_ hk65
    have hm64 : q62.M = ((ck1.pin 0 0).2.fill 0 nvL.leaf nvL.l).2 := by rw [hm64_, hm60]
    have ht66 : (q59.M.fill 0 nvL.leaf nvL.l).1 = (((ck1.pin 0 0).2.fill 0 nvL.leaf nvL.l).1.1, ((ck1.pin 0 0).2.fill 0 nvL.leaf nvL.l).1.2) := by rw [hm60]; try rfl
    refine row_eq (show _ = ((ck1.pin 0 0).2.fill 0 nvL.leaf nvL.l).1.1 from congrArg Prod.fst ht66) ?_
    refine Pre.setV (t := 73) (c := .tuple #[v63, .bool ((ck1.pin 0 0).2.fill 0 nvL.leaf nvL.l).1.2]) rfl (by rw [congrArg Prod.snd ht66]) ?_
    refine l_nil ?_
    refine k_then ?_
    refine c_seq ?_
    refine c_region _ rfl ?_
    refine l_q rfl (q_move rfl rfl) rfl rfl ?_
    refine drop0 ?_
    refine drop0 ?_
    refine l_e rfl ?_
    refine e_callH [] (qunpin hk65 (0)) rfl rfl rfl Try.call19 rfl (fun _ _ => trivial) ?_
    rintro q67 ⟨hm68_, _, hk69⟩
    refine Pre.world (St _ _ (Q.H r36 q67)) (fun _ h => h) ?_
    have hm68 : q67.M = (ckL [true, false, false, false, false, false]) := by rw [hm68_, hm64]; exact ck_two
    refine l_nil ?_
    refine k_then ?_
    refine c_seq ?_
    refine c_seq ?_
    refine c_region _ rfl ?_
    refine l_q rfl (q_assign rfl rfl) rfl rfl ?_
    refine l_nil ?_
    refine k_then ?_
    refine c_block ?_
    refine c_loop3 (fun (i : Nat) (q : Q) (rs : List Bool) => [(0, va), (1, .int .u8 n), (5, .pointer (some ⟨r36, 0, none⟩)), (12, .int .i64 (i : Int))]) (fun (i : Nat) (q : Q) (rs : List Bool) => St w [] (Q.H r36 q)) (fun (i : Nat) (q : Q) (rs : List Bool) => (i ≤ l.length ∧ i ≤ 10) ∧ q.M = ckL rs ∧ q.Ok (7 + i) ∧ rs.length = 6) (fun (i : Nat) (q : Q) (rs : List Bool) => l.length - i) (0) (q67) ([true, false, false, false, false, false]) ⟨⟨Nat.zero_le _, by decide⟩, hm68, hk69, rfl⟩ (Sub.cons rfl (Sub.cons rfl (Sub.cons rfl (Sub.cons rfl (Sub.nil))))) (fun _ h => h) ?_
    intro i q rs hp
    refine c_seq ?_
    refine c_seq ?_
    obtain ⟨⟨hi, hi10⟩, hqM, hqk, hrs⟩ := hp
    refine c_region _ rfl ?_
    refine l_q rfl (q_move rfl rfl) rfl rfl ?_
    refine l_q rfl (q_move rfl rfl) rfl rfl ?_
    refine l_q rfl (q_lenV rfl Try.underlying22 rfl (fun _ h => hl.keep h (by simp [dom]))) rfl rfl ?_
    refine l_q rfl (q_lss rfl rfl rfl) rfl rfl ?_
    refine l_q rfl (q_move rfl rfl) rfl rfl ?_
    refine Pre.caseB 80 rfl (fun h1 => ?_) (fun h1 => ?_)
    · try simp only [decide_eq_true_eq, decide_eq_false_iff_not, Bool.not_eq_true', Bool.not_eq_false'] at h1
      refine l_q rfl (q_move rfl rfl) rfl rfl ?_
      refine l_q rfl (q_lss rfl rfl rfl) rfl rfl ?_
      refine l_q rfl (q_pick_t rfl rfl rfl) rfl rfl ?_
      refine l_nil ?_
      refine k_then ?_
      refine Pre.caseB 83 rfl (fun h2 => ?_) (fun h2 => ?_)
      · try simp only [decide_eq_true_eq, decide_eq_false_iff_not, Bool.not_eq_true', Bool.not_eq_false'] at h2
        obtain ⟨x, hx⟩ : ∃ x, l[i]? = some x := ⟨_, List.getElem?_eq_getElem (by omega)⟩
        obtain ⟨hx0, hx1⟩ := u8_in hu hx
        obtain ⟨k, hk, hk6⟩ : ∃ k : Nat, x % 6 = (k : Int) ∧ k < 6 := ⟨(x % 6).toNat, by omega, by omega⟩
        obtain ⟨hg1, hg2⟩ := ck_go' hrs hk6
        refine c_true rfl ?_
        refine c_skip ?_
        refine k_then ?_
        refine c_seq ?_
        refine c_block ?_
        refine c_seq ?_
        refine c_seq ?_
        refine c_region _ rfl ?_
        refine l_q rfl (q_move rfl rfl) rfl rfl ?_
        refine l_q rfl (q_move rfl rfl) rfl rfl ?_
        refine l_q rfl (q_move rfl rfl) rfl rfl ?_
        refine l_q rfl (q_indexV i rfl Try.underlying22 Try.sizeOf5 rfl (fun _ h => hl.keep h (by simp [dom])) rfl rfl (by omega)) rfl rfl ?_
        refine l_q rfl (q_loadV i 0 rfl Try.isAgg5 rfl rfl (fun _ h => hl.keep h (by simp [dom])) hx rfl) rfl rfl ?_
        refine l_q rfl (q_rem_nn rfl rfl rfl hx0 (by omega)) rfl rfl ?_
        refine l_q rfl (q_conv_in rfl Try.underlying5 Try.underlying3 rfl (by first | rfl | (simp only [IntKind.wrap]; omega) | exact wrap64_in (by omega))) rfl rfl ?_
        refine Pre.setV (t := 92) (c := .int .i64 (k : Int)) rfl (by rw [hk]) ?_
        refine l_e rfl ?_
        refine e_callH [] (qpin hqk (by omega) (0) ((k : Int)) (i64_in (by omega) (by omega))) rfl rfl rfl Try.call12 rfl (fun _ _ => trivial) ?_
        rintro q70 ⟨hm71_, _, hk72⟩
        refine Pre.world (St _ _ (Q.H r36 q70)) (fun _ h => h) ?_
        have hm71 : q70.M = ((ckL rs).pin 0 (k : Int)).2 := by rw [hm71_, hqM]
        refine Pre.setV (t := 93) (c := .int .i64 1) rfl (by rw [hqM]; exact congrArg _ hg1) ?_
        refine l_q rfl (q_neq rfl rfl rfl) rfl rfl ?_
        refine l_nil ?_
        refine k_then ?_
        refine Pre.setB (t := 94) (c := false) rfl (rfl) ?_
        refine c_false rfl ?_
        refine c_skip ?_
        refine k_then ?_
        refine c_region _ rfl ?_
        refine l_q rfl (q_move rfl rfl) rfl rfl ?_
        refine l_q rfl (q_move rfl rfl) rfl rfl ?_
        refine l_q rfl (q_move rfl rfl) rfl rfl ?_
        refine l_q rfl (q_indexV i rfl Try.underlying22 Try.sizeOf5 rfl (fun _ h => hl.keep h (by simp [dom])) rfl rfl (by omega)) rfl rfl ?_
        refine l_q rfl (q_loadV i 0 rfl Try.isAgg5 rfl rfl (fun _ h => hl.keep h (by simp [dom])) hx rfl) rfl rfl ?_
        refine l_q rfl (q_rem_nn rfl rfl rfl hx0 (by omega)) rfl rfl ?_
        refine l_q rfl (q_conv_in rfl Try.underlying5 Try.underlying3 rfl (by first | rfl | (simp only [IntKind.wrap]; omega) | exact wrap64_in (by omega))) rfl rfl ?_
        refine Pre.setV (t := 101) (c := .int .i64 (k : Int)) rfl (by rw [hk]) ?_
        refine l_e rfl ?_
        refine e_callH [] (qunpin hk72 ((k : Int))) rfl rfl rfl Try.call19 rfl (fun _ _ => trivial) ?_
        rintro q73 ⟨hm74_, _, hk75⟩
        refine Pre.world (St _ _ (Q.H r36 q73)) (fun _ h => h) ?_
        have hm74 : q73.M = (ckL (rs.set k true)) := by rw [hm74_, hm71]; exact hg2
        refine l_nil ?_
        refine k_block ?_
        refine k_then ?_
        refine c_region _ rfl ?_
        refine l_q rfl (q_move rfl rfl) rfl rfl ?_
        refine l_q rfl (q_inc rfl rfl rfl (by omega)) rfl rfl ?_
        refine l_q rfl (q_assign rfl rfl) rfl rfl ?_
        refine l_nil ?_
        exact k_round ((i + 1, q73, rs.set k true)) (by dsimp only; omega) ⟨by dsimp only; omega, hm74, hk75, by dsimp only; rw [List.length_set]; exact hrs⟩ (Sub.cons rfl (Sub.cons rfl (Sub.cons rfl (Sub.cons rfl (Sub.nil))))) (fun _ h => h)
      · try simp only [decide_eq_true_eq, decide_eq_false_iff_not, Bool.not_eq_true', Bool.not_eq_false'] at h2
        obtain ⟨h, hh, hh6⟩ : ∃ h : Nat, n % 6 = (h : Int) ∧ h < 6 := ⟨(n % 6).toNat, by omega, by omega⟩
        obtain ⟨hw5, hev, hno, hfr, hf6⟩ := ck_facts hrs hh6
        refine c_false rfl ?_
        refine c_exit ?_
        refine k_then_exit ?_
        refine k_then_exit ?_
        refine k_block_exit ?_
        refine k_then ?_
        refine c_seq ?_
        refine c_region _ rfl ?_
        refine l_q rfl (q_move rfl rfl) rfl rfl ?_
        refine l_q rfl (q_rem_nn rfl rfl rfl (by omega) (by omega)) rfl rfl ?_
        refine l_q rfl (q_conv_in rfl Try.underlying5 Try.underlying3 rfl (by first | rfl | (simp only [IntKind.wrap]; omega) | exact wrap64_in (by omega))) rfl rfl ?_
        refine l_q rfl (q_assign rfl rfl) rfl rfl ?_
        refine l_nil ?_
        refine k_then ?_
        refine c_seq ?_
        refine Pre.setV (t := 13) (c := .int .i64 (h : Int)) rfl (by rw [hh]) ?_
        refine c_region _ rfl ?_
        refine l_q rfl (q_move rfl rfl) rfl rfl ?_
        refine l_q rfl (q_move rfl rfl) rfl rfl ?_
        refine l_e rfl ?_
        refine e_callH [] (qpin hqk (by omega) (1) ((h : Int)) (i64_in (by omega) (by omega))) rfl rfl rfl Try.call12 rfl (fun _ _ => trivial) ?_
        rintro q76 ⟨hm77_, _, hk78⟩
        refine Pre.world (St _ _ (Q.H r36 q76)) (fun _ h => h) ?_
        have hm77 : q76.M = (ckM rs h) := by rw [hm77_, hqM]; try rfl
        refine l_nil ?_
        refine k_then ?_
        refine c_seq ?_
        refine c_region _ rfl ?_
        refine l_q rfl (q_move rfl rfl) rfl rfl ?_
        refine l_e rfl ?_
        refine e_callH [] (qframes0 hk78) rfl rfl rfl Try.call16 rfl (fun _ _ => trivial) ?_
        rintro ⟨v79, fl80⟩ hf81
        refine Pre.world (St _ _ (rowE v79 44 FC.encA fl80 :: Q.H r36 q76)) (fun _ h => h) ?_
        dsimp only at hf81
        rw [hm77] at hf81
        refine l_q rfl (q_assign rfl rfl) rfl rfl ?_
        refine l_nil ?_
        refine k_then ?_
        refine c_seq ?_
        refine c_seq ?_
        refine c_region _ rfl ?_
        refine l_q rfl (q_move rfl rfl) rfl rfl ?_
        refine l_q rfl (q_lenV rfl Try.underlying39 rfl (fun _ h => h.rd 0 rfl)) rfl rfl ?_
        refine l_q rfl (q_neq rfl rfl rfl) rfl rfl ?_
        refine l_nil ?_
        refine k_then ?_
        have hl6 : fl80.length = 6 := frs_len hf81 hf6
        refine Pre.setB (t := 113) (c := false) rfl (by simp [hl6]) ?_
        refine c_false rfl ?_
        refine c_skip ?_
        refine k_then ?_
        refine c_seq ?_
        refine c_region _ rfl ?_
        refine l_q rfl (q_assign rfl rfl) rfl rfl ?_
        refine l_q rfl (q_assign rfl rfl) rfl rfl ?_
        refine l_nil ?_
        refine k_then ?_
        refine c_seq ?_
        refine c_seq ?_
        refine c_region _ rfl ?_
        refine l_q rfl (q_assign rfl rfl) rfl rfl ?_
        refine l_nil ?_
        refine k_then ?_
        refine c_block ?_
        refine row0 4 encB none ?_
        refine row0 4 encB none ?_
        refine c_loop3 (fun (m : Nat) (v1 : Value) (v2 : Value) => [(5, .pointer (some ⟨r36, 0, none⟩)), (14, v79), (15, v1), (16, v2), (17, .int .i64 (m : Int))]) (fun (m : Nat) (v1 : Value) (v2 : Value) => St w [] (rowE v1 4 encB ((fl80.take m).map (fun f => decide (f.pins = 0))) :: rowE v2 4 encB ((fl80.take m).map FC.ref) :: rowE v79 44 FC.encA fl80 :: Q.H r36 q76)) (fun (m : Nat) (v1 : Value) (v2 : Value) => m ≤ 6) (fun (m : Nat) (v1 : Value) (v2 : Value) => 6 - m) (0) (.slice none 0 0) (.slice none 0 0) (Nat.zero_le _) (Sub.cons rfl (Sub.cons rfl (Sub.cons rfl (Sub.cons rfl (Sub.cons rfl (Sub.nil)))))) (fun _ h => h) ?_
        intro m v1 v2 hi6
        refine c_seq ?_
        refine c_seq ?_
        have hcl : ((fl80.take m).map (fun f => decide (f.pins = 0))).length ≤ m := by rw [List.length_map, List.length_take]; omega
        have hrl : ((fl80.take m).map FC.ref).length ≤ m := by rw [List.length_map, List.length_take]; omega
        refine c_region _ rfl ?_
        refine l_q rfl (q_move rfl rfl) rfl rfl ?_
        refine l_q rfl (q_lss rfl rfl rfl) rfl rfl ?_
        refine l_nil ?_
        refine k_then ?_
        refine Pre.caseB 115 rfl (fun h3 => ?_) (fun h3 => ?_)
        · try simp only [decide_eq_true_eq, decide_eq_false_iff_not, Bool.not_eq_true', Bool.not_eq_false'] at h3
          obtain ⟨f, hfi⟩ : ∃ f, fl80[m]? = some f := ⟨_, List.getElem?_eq_getElem (by omega)⟩
          have hcs : ((fl80.take m).map (fun f => decide (f.pins = 0))) ++ [decide (f.pins = 0)] = ((fl80.take (m + 1)).map (fun f => decide (f.pins = 0))) := by rw [List.take_add_one, hfi, List.map_append]; rfl
          have hrs2 : ((fl80.take m).map FC.ref) ++ [f.ref] = ((fl80.take (m + 1)).map FC.ref) := by rw [List.take_add_one, hfi, List.map_append]; rfl
          refine c_true rfl ?_
          refine c_skip ?_
          refine k_then ?_
          refine c_seq ?_
          refine c_block ?_
          refine c_any (fun w2 => RdV w2 v79 FC.encA fl80) rfl St.drawn ?_
          refine a_q (blind_block (blind_then (blind_then (blind_block (blind_then blind_body))))) 0 rfl (by kernel_rfl) (by kernel_rfl) (by kernel_rfl) (fun _ h => h.rd 2 rfl) rfl (q_move rfl rfl) rfl rfl ?_
          refine a_q (blind_block (blind_then (blind_then (blind_block (blind_then blind_body))))) 1 rfl (by kernel_rfl) (by kernel_rfl) (by kernel_rfl) (fun _ h => h.rd 2 rfl) rfl (q_move rfl rfl) rfl rfl ?_
          refine a_q (blind_block (blind_then (blind_then (blind_block (blind_then blind_body))))) 2 rfl (by kernel_rfl) (by kernel_rfl) (by kernel_rfl) (fun _ h => h.rd 2 rfl) rfl (q_move rfl rfl) rfl rfl ?_
          refine a_q (blind_block (blind_then (blind_then (blind_block (blind_then blind_body))))) 3 rfl (by kernel_rfl) (by kernel_rfl) (by kernel_rfl) (fun _ h => h.rd 2 rfl) rfl (q_indexV m rfl Try.underlying39 Try.sizeOf44 rfl (fun _ h => h) rfl rfl (by omega)) rfl rfl ?_
          refine a_q (blind_block (blind_then (blind_then (blind_block (blind_then blind_body))))) 4 rfl (by kernel_rfl) (by kernel_rfl) (by kernel_rfl) (fun _ h => h.rd 2 rfl) rfl (q_fieldAddr rfl Try.underlying44 rfl Try.sizeOf3 rfl rfl) rfl rfl ?_
          refine a_q (blind_block (blind_then (blind_then (blind_block (blind_then blind_body))))) 5 rfl (by kernel_rfl) (by kernel_rfl) (by kernel_rfl) (fun _ h => h.rd 2 rfl) rfl (q_loadV m 2 rfl Try.isAgg3 rfl rfl (fun _ h => h) hfi rfl) rfl rfl ?_
          refine a_q (blind_block (blind_then (blind_then (blind_block (blind_then blind_body))))) 6 rfl (by kernel_rfl) (by kernel_rfl) (by kernel_rfl) (fun _ h => h.rd 2 rfl) rfl (q_eql rfl rfl rfl) rfl rfl ?_
          refine a_q (blind_block (blind_then (blind_then (blind_block (blind_then blind_body))))) 9 rfl (by kernel_rfl) (by kernel_rfl) (by kernel_rfl) (fun _ h => h.rd 2 rfl) rfl (q_move rfl rfl) rfl rfl ?_
          refine a_q (blind_block (blind_then (blind_then (blind_block (blind_then blind_body))))) 10 rfl (by kernel_rfl) (by kernel_rfl) (by kernel_rfl) (fun _ h => h.rd 2 rfl) rfl (q_move rfl rfl) rfl rfl ?_
          refine a_q (blind_block (blind_then (blind_then (blind_block (blind_then blind_body))))) 11 rfl (by kernel_rfl) (by kernel_rfl) (by kernel_rfl) (fun _ h => h.rd 2 rfl) rfl (q_move rfl rfl) rfl rfl ?_
          refine a_q (blind_block (blind_then (blind_then (blind_block (blind_then blind_body))))) 12 rfl (by kernel_rfl) (by kernel_rfl) (by kernel_rfl) (fun _ h => h.rd 2 rfl) rfl (q_indexV m rfl Try.underlying39 Try.sizeOf44 rfl (fun _ h => h) rfl rfl (by omega)) rfl rfl ?_
          refine a_q (blind_block (blind_then (blind_then (blind_block (blind_then blind_body))))) 13 rfl (by kernel_rfl) (by kernel_rfl) (by kernel_rfl) (fun _ h => h.rd 2 rfl) rfl (q_fieldAddr rfl Try.underlying44 rfl Try.sizeOf4 rfl rfl) rfl rfl ?_
          refine a_q (blind_block (blind_then (blind_then (blind_block (blind_then blind_body))))) 14 rfl (by kernel_rfl) (by kernel_rfl) (by kernel_rfl) (fun _ h => h.rd 2 rfl) rfl (q_loadV m 3 rfl Try.isAgg4 rfl rfl (fun _ h => h) hfi rfl) rfl rfl ?_
          refine a_all2 7 15 (by kernel_rfl) rfl rfl rfl rfl ?_ ?_ 
          · refine e_buildSliceV (sz := 1) [.tmp 124] rfl rfl rfl rfl rfl Try.underlying49 Try.sizeOf4 rfl Try.zeroValue4 rfl ?_
            intro b1
            refine d_held (fun _ h => h.rd 3 rfl) ?_
            refine a_all2 8 15 (by kernel_rfl) rfl rfl rfl rfl ?_ ?_ 
            · refine pull1 ?_
              refine e_append rfl rfl rfl Try.underlying49 Try.underlying49 info4 rfl rfl rfl rfl rfl (fun _ h => lit_rd (h.at 1 rfl) encB [(decide (f.pins = 0))] rfl rfl) (by simp only [byt4, List.length_append, List.length_cons, List.length_nil]; omega) (by simp only [List.length_append, List.length_cons, List.length_nil]; omega) ?_
              intro vk
              refine row_eq (hcs) ?_
              refine pull1 ?_
              refine drop0 ?_
              refine d_held (fun _ h => h.rd 2 rfl) ?_
              refine a_all1 15 (by kernel_rfl) rfl rfl ?_
              refine e_buildSliceV (sz := 1) [.tmp 132] rfl rfl rfl rfl rfl Try.underlying49 Try.sizeOf4 rfl Try.zeroValue4 rfl ?_
              intro b2
              refine d_held (fun _ h => h.rd 3 rfl) ?_
              refine pull2 ?_
              refine a_all1 16 (by kernel_rfl) rfl rfl ?_
              refine e_append rfl rfl rfl Try.underlying49 Try.underlying49 info4 rfl rfl rfl rfl rfl (fun _ h => lit_rd (h.at 1 rfl) encB [f.ref] rfl rfl) (by simp only [byt4, List.length_append, List.length_cons, List.length_nil]; omega) (by simp only [List.length_append, List.length_cons, List.length_nil]; omega) ?_
              intro vr
              refine row_eq (hrs2) ?_
              refine pull1 ?_
              refine drop0 ?_
              refine d_held (fun _ h => h.rd 2 rfl) ?_
              refine a_q (blind_block (blind_then (blind_then (blind_block (blind_then blind_body))))) 17 rfl (by kernel_rfl) (by kernel_rfl) (by kernel_rfl) (fun _ h => h.rd 2 rfl) rfl (q_assign rfl rfl) rfl rfl ?_
              refine a_q (blind_block (blind_then (blind_then (blind_block (blind_then blind_body))))) 18 rfl (by kernel_rfl) (by kernel_rfl) (by kernel_rfl) (fun _ h => h.rd 2 rfl) rfl (q_assign rfl rfl) rfl rfl ?_
              refine a_nil (by kernel_rfl) ?_
              refine k_block ?_
              refine k_then ?_
              refine c_region _ rfl ?_
              refine l_q rfl (q_move rfl rfl) rfl rfl ?_
              refine l_q rfl (q_inc rfl rfl rfl (by omega)) rfl rfl ?_
              refine l_q rfl (q_assign rfl rfl) rfl rfl ?_
              refine l_nil ?_
              refine pull2 ?_
              refine pull1 ?_
              refine pull2 ?_
              exact k_round ((m + 1, vk, vr)) (by dsimp only; omega) (by dsimp only; omega) (Sub.cons rfl (Sub.cons rfl (Sub.cons rfl (Sub.cons rfl (Sub.cons rfl (Sub.nil)))))) (fun _ h => h)
            · refine e_buildSliceV (sz := 1) [.tmp 132] rfl rfl rfl rfl rfl Try.underlying49 Try.sizeOf4 rfl Try.zeroValue4 rfl ?_
              intro b3
              refine d_held (fun _ h => h.rd 4 rfl) ?_
              refine pull2 ?_
              refine a_all1 8 (by kernel_rfl) rfl rfl ?_
              refine e_append rfl rfl rfl Try.underlying49 Try.underlying49 info4 rfl rfl rfl rfl rfl (fun _ h => lit_rd (h.at 2 rfl) encB [(decide (f.pins = 0))] rfl rfl) (by simp only [byt4, List.length_append, List.length_cons, List.length_nil]; omega) (by simp only [List.length_append, List.length_cons, List.length_nil]; omega) ?_
              intro vk
              refine row_eq (hcs) ?_
              refine pull2 ?_
              refine drop0 ?_
              refine d_held (fun _ h => h.rd 3 rfl) ?_
              refine pull2 ?_
              refine a_all1 16 (by kernel_rfl) rfl rfl ?_
              refine e_append rfl rfl rfl Try.underlying49 Try.underlying49 info4 rfl rfl rfl rfl rfl (fun _ h => lit_rd (h.at 2 rfl) encB [f.ref] rfl rfl) (by simp only [byt4, List.length_append, List.length_cons, List.length_nil]; omega) (by simp only [List.length_append, List.length_cons, List.length_nil]; omega) ?_
              intro vr
              refine row_eq (hrs2) ?_
              refine pull2 ?_
              refine drop0 ?_
              refine d_held (fun _ h => h.rd 2 rfl) ?_
              refine a_q (blind_block (blind_then (blind_then (blind_block (blind_then blind_body))))) 17 rfl (by kernel_rfl) (by kernel_rfl) (by kernel_rfl) (fun _ h => h.rd 2 rfl) rfl (q_assign rfl rfl) rfl rfl ?_
              refine a_q (blind_block (blind_then (blind_then (blind_block (blind_then blind_body))))) 18 rfl (by kernel_rfl) (by kernel_rfl) (by kernel_rfl) (fun _ h => h.rd 2 rfl) rfl (q_assign rfl rfl) rfl rfl ?_
              refine a_nil (by kernel_rfl) ?_
              refine k_block ?_
              refine k_then ?_
              refine c_region _ rfl ?_
              refine l_q rfl (q_move rfl rfl) rfl rfl ?_
              refine l_q rfl (q_inc rfl rfl rfl (by omega)) rfl rfl ?_
              refine l_q rfl (q_assign rfl rfl) rfl rfl ?_
              refine l_nil ?_
              refine pull2 ?_
              refine pull1 ?_
              refine pull2 ?_
              exact k_round ((m + 1, vk, vr)) (by dsimp only; omega) (by dsimp only; omega) (Sub.cons rfl (Sub.cons rfl (Sub.cons rfl (Sub.cons rfl (Sub.cons rfl (Sub.nil)))))) (fun _ h => h)
          · refine e_buildSliceV (sz := 1) [.tmp 132] rfl rfl rfl rfl rfl Try.underlying49 Try.sizeOf4 rfl Try.zeroValue4 rfl ?_
            intro b4
            refine d_held (fun _ h => h.rd 3 rfl) ?_
            refine a_all1 7 (by kernel_rfl) rfl rfl ?_
            refine e_buildSliceV (sz := 1) [.tmp 124] rfl rfl rfl rfl rfl Try.underlying49 Try.sizeOf4 rfl Try.zeroValue4 rfl ?_
            intro b5
            refine d_held (fun _ h => h.rd 4 rfl) ?_
            refine pull2 ?_
            refine a_all1 8 (by kernel_rfl) rfl rfl ?_
            refine e_append rfl rfl rfl Try.underlying49 Try.underlying49 info4 rfl rfl rfl rfl rfl (fun _ h => lit_rd (h.at 1 rfl) encB [(decide (f.pins = 0))] rfl rfl) (by simp only [byt4, List.length_append, List.length_cons, List.length_nil]; omega) (by simp only [List.length_append, List.length_cons, List.length_nil]; omega) ?_
            intro vk
            refine row_eq (hcs) ?_
            refine pull1 ?_
            refine drop0 ?_
            refine d_held (fun _ h => h.rd 3 rfl) ?_
            refine pull2 ?_
            refine a_all1 16 (by kernel_rfl) rfl rfl ?_
            refine e_append rfl rfl rfl Try.underlying49 Try.underlying49 info4 rfl rfl rfl rfl rfl (fun _ h => lit_rd (h.at 2 rfl) encB [f.ref] rfl rfl) (by simp only [byt4, List.length_append, List.length_cons, List.length_nil]; omega) (by simp only [List.length_append, List.length_cons, List.length_nil]; omega) ?_
            intro vr
            refine row_eq (hrs2) ?_
            refine pull2 ?_
            refine drop0 ?_
            refine d_held (fun _ h => h.rd 2 rfl) ?_
            refine a_q (blind_block (blind_then (blind_then (blind_block (blind_then blind_body))))) 17 rfl (by kernel_rfl) (by kernel_rfl) (by kernel_rfl) (fun _ h => h.rd 2 rfl) rfl (q_assign rfl rfl) rfl rfl ?_
            refine a_q (blind_block (blind_then (blind_then (blind_block (blind_then blind_body))))) 18 rfl (by kernel_rfl) (by kernel_rfl) (by kernel_rfl) (fun _ h => h.rd 2 rfl) rfl (q_assign rfl rfl) rfl rfl ?_
            refine a_nil (by kernel_rfl) ?_
            refine k_block ?_
            refine k_then ?_
            refine c_region _ rfl ?_
            refine l_q rfl (q_move rfl rfl) rfl rfl ?_
            refine l_q rfl (q_inc rfl rfl rfl (by omega)) rfl rfl ?_
            refine l_q rfl (q_assign rfl rfl) rfl rfl ?_
            refine l_nil ?_
            refine pull2 ?_
            refine pull1 ?_
            refine pull2 ?_
            exact k_round ((m + 1, vk, vr)) (by dsimp only; omega) (by dsimp only; omega) (Sub.cons rfl (Sub.cons rfl (Sub.cons rfl (Sub.cons rfl (Sub.cons rfl (Sub.nil)))))) (fun _ h => h)
        · try simp only [decide_eq_true_eq, decide_eq_false_iff_not, Bool.not_eq_true', Bool.not_eq_false'] at h3
          have hce : ((fl80.take m).map (fun f => decide (f.pins = 0))) = canP (ckM rs h) := by rw [List.take_of_length_le (by omega)]; exact canP_eq (M := ckM rs h) hf81
          have hre : ((fl80.take m).map FC.ref) = (ckM rs h).rfs := by rw [List.take_of_length_le (by omega)]; exact rfsP_eq hf81
          rw [hce, hre]
          have hcp : (canP (ckM rs h)).length = 6 := by unfold canP; rw [List.length_map]; exact hf6
          refine c_false rfl ?_
          refine c_exit ?_
          refine k_then_exit ?_
          refine k_then_exit ?_
          refine k_block_exit ?_
          refine k_then ?_
          refine c_seq ?_
          refine c_region _ rfl ?_
          refine l_q rfl (q_move rfl rfl) rfl rfl ?_
          refine l_q rfl (q_move rfl rfl) rfl rfl ?_
          refine l_e rfl ?_
          refine e_call_01 (rorder_spec (canP (ckM rs h)) (ckM rs h).rfs 1 (by decide) (by omega)) rfl rfl rfl Try.call21 rfl (fun _ h => ⟨h.rd 0 rfl, h.rd 1 rfl⟩) ?_
          intro vw _
          refine row_eq (show _ = (nints (ckW rs h)) from rfl) ?_
          refine l_q rfl (q_assign rfl rfl) rfl rfl ?_
          refine l_nil ?_
          refine k_then ?_
          refine c_seq ?_
          refine c_seq ?_
          refine c_region _ rfl ?_
          refine l_q rfl (q_assign rfl rfl) rfl rfl ?_
          refine l_nil ?_
          refine k_then ?_
          refine c_block ?_
          have hwl : (nints (ckW rs h)).length = 5 := by rw [nints_len']; exact hw5
          refine pull1 ?_
          refine drop0 ?_
          refine pull1 ?_
          refine drop0 ?_
          refine c_loop2 (fun (j : Nat) (q : Q) => [(5, .pointer (some ⟨r36, 0, none⟩)), (14, v79), (18, vw), (19, .int .i64 (j : Int))]) (fun (j : Nat) (q : Q) => St w [] (rowE vw 3 (encI .i64) (nints (ckW rs h)) :: rowE v79 44 FC.encA fl80 :: Q.H r36 q)) (fun (j : Nat) (q : Q) => j ≤ 5 ∧ q.M = evs (ckM rs h) j ∧ q.Ok (((7 + i) + 1))) (fun (j : Nat) (q : Q) => 5 - j) (0) (q76) ⟨Nat.zero_le _, hm77, hk78⟩ (Sub.cons rfl (Sub.cons rfl (Sub.cons rfl (Sub.cons rfl (Sub.nil))))) (fun _ h => h) ?_
          intro j q hp
          refine c_seq ?_
          refine c_seq ?_
          obtain ⟨hj5, hqM2, hqk2⟩ := hp
          refine c_region _ rfl ?_
          refine l_q rfl (q_move rfl rfl) rfl rfl ?_
          refine l_q rfl (q_move rfl rfl) rfl rfl ?_
          refine l_q rfl (q_lenV rfl Try.underlying28 rfl (fun _ h => h.rd 0 rfl)) rfl rfl ?_
          refine l_q rfl (q_lss rfl rfl rfl) rfl rfl ?_
          refine l_nil ?_
          refine k_then ?_
          refine Pre.caseB 141 rfl (fun h4 => ?_) (fun h4 => ?_)
          · try simp only [decide_eq_true_eq, decide_eq_false_iff_not, Bool.not_eq_true', Bool.not_eq_false'] at h4
            obtain ⟨y, k, hye, hwk, hyb, hyd, hk6, hkb⟩ := hev j (by omega)
            obtain ⟨f, hfk, hfb⟩ := fr_blk hf81 hkb
            have hwj := nints_at hwk
            refine c_true rfl ?_
            refine c_skip ?_
            refine k_then ?_
            refine c_seq ?_
            refine c_block ?_
            refine c_seq ?_
            refine c_region _ rfl ?_
            refine l_q rfl (q_move rfl rfl) rfl rfl ?_
            refine l_e rfl ?_
            refine e_callH [_, _] (qevict hqk2) rfl rfl rfl Try.call20 rfl (fun _ _ => trivial) ?_
            rintro ⟨q82, en83⟩ ⟨hm84_, hg89, hk85, hi87, hx86⟩
            refine Pre.world (St _ _ (_ :: _ :: Q.H r36 q82)) (fun _ h => h) ?_
            dsimp only at hm84_ hk85 hi87 hx86 hg89
            rw [← hg89] at hi87
            have hm84 : q82.M = (evs (ckM rs h) (j + 1)) := by rw [hm84_, hqM2]; try rfl
            have he88 : q.M.evict.1 = (some y) := by rw [hqM2]; exact hye
            rw [he88] at hx86
            refine Pre.setV (t := 146) (c := evV (some y) en83) rfl (by rw [he88]) ?_
            refine l_q rfl (q_move rfl rfl) rfl rfl ?_
            refine l_q rfl (q_extract rfl rfl rfl) rfl rfl ?_
            refine l_q rfl (q_extract rfl rfl rfl) rfl rfl ?_
            refine l_q rfl (q_extract rfl rfl rfl) rfl rfl ?_
            refine l_q rfl (q_extract rfl rfl rfl) rfl rfl ?_
            refine l_e rfl ?_
            refine e_alloc rfl rfl rfl Try.zeroValue37 ?_
            intro bz
            refine cells_eq (show _ = nv0.c from rfl) ?_
            refine l_q rfl (q_assign rfl rfl) rfl rfl ?_
            refine l_e rfl ?_
            refine e_storeAgg rfl rfl Try.sizeOf37 rfl rfl rfl (NV.one _) (by show 0 + 5 ≤ 5; decide) ?_
            refine cells_eq (show Sep.splice _ 0 (en83).c = (en83).c from Sep.splice_all rfl) ?_
            refine l_q rfl (q_assign rfl rfl) rfl rfl ?_
            refine l_q rfl (q_assign rfl rfl) rfl rfl ?_
            refine l_nil ?_
            refine k_then ?_
            refine c_seq ?_
            refine c_region _ rfl ?_
            refine l_q rfl (q_move rfl rfl) rfl rfl ?_
            refine l_q rfl (q_not rfl rfl) rfl rfl ?_
            refine l_q rfl (q_move rfl rfl) rfl rfl ?_
            refine drop0 ?_
            refine Pre.setB (t := 153) (c := false) rfl (by first | rfl | (simp [hyb, hfb, hyd]; done)) ?_
            refine l_q rfl (q_move rfl rfl) rfl rfl ?_
            refine l_q rfl (q_move rfl rfl) rfl rfl ?_
            refine l_q rfl (q_move rfl rfl) rfl rfl ?_
            refine l_q rfl (q_move rfl rfl) rfl rfl ?_
            refine l_q rfl (q_indexV j rfl Try.underlying28 Try.sizeOf3 rfl (fun _ h => h.rd 0 rfl) rfl rfl (by omega)) rfl rfl ?_
            refine l_q rfl (q_loadV j 0 rfl Try.isAgg3 rfl rfl (fun _ h => h.rd 0 rfl) hwj rfl) rfl rfl ?_
            refine l_q rfl (q_indexV k rfl Try.underlying39 Try.sizeOf44 rfl (fun _ h => h.rd 1 rfl) rfl rfl (by omega)) rfl rfl ?_
            refine l_q rfl (q_fieldAddr rfl Try.underlying44 rfl Try.sizeOf3 rfl rfl) rfl rfl ?_
            refine l_q rfl (q_loadV k 1 rfl Try.isAgg3 rfl rfl (fun _ h => h.rd 1 rfl) hfk rfl) rfl rfl ?_
            refine l_q rfl (q_neq rfl rfl rfl) rfl rfl ?_
            refine l_q rfl (q_pick_f rfl rfl rfl) rfl rfl ?_
            refine l_q rfl (q_move rfl rfl) rfl rfl ?_
            refine Pre.setB (t := 165) (c := false) rfl (by first | rfl | (simp [hyb, hfb, hyd]; done)) ?_
            refine l_q rfl (q_move rfl rfl) rfl rfl ?_
            refine l_q rfl (q_pick_f rfl rfl rfl) rfl rfl ?_
            refine l_nil ?_
            refine k_then ?_
            refine Pre.setB (t := 167) (c := false) rfl (by first | rfl | (simp [hyb, hfb, hyd]; done)) ?_
            refine c_false rfl ?_
            refine c_skip ?_
            refine k_block ?_
            refine k_then ?_
            refine c_region _ rfl ?_
            refine l_q rfl (q_move rfl rfl) rfl rfl ?_
            refine l_q rfl (q_inc rfl rfl rfl (by omega)) rfl rfl ?_
            refine l_q rfl (q_assign rfl rfl) rfl rfl ?_
            refine l_nil ?_
            exact k_round ((j + 1, q82)) (by dsimp only; omega) ⟨by dsimp only; omega, hm84, hk85⟩ (Sub.cons rfl (Sub.cons rfl (Sub.cons rfl (Sub.cons rfl (Sub.nil))))) (fun _ h => h)
          · try simp only [decide_eq_true_eq, decide_eq_false_iff_not, Bool.not_eq_true', Bool.not_eq_false'] at h4
            have hj : j = 5 := by omega
            subst hj
            obtain ⟨E5, hE5⟩ : ∃ M, M = evs (ckM rs h) 5 := ⟨_, rfl⟩
            rw [← hE5] at hno hfr hqM2
            refine c_false rfl ?_
            refine c_exit ?_
            refine k_then_exit ?_
            refine k_then_exit ?_
            refine k_block_exit ?_
            refine k_then ?_
            refine c_seq ?_
            refine c_region _ rfl ?_
            refine l_q rfl (q_move rfl rfl) rfl rfl ?_
            refine l_e rfl ?_
            refine e_callH [_, _] (qevict hqk2) rfl rfl rfl Try.call20 rfl (fun _ _ => trivial) ?_
            rintro ⟨q90, en91⟩ ⟨hm92_, hg97, hk93, hi95, hx94⟩
            refine Pre.world (St _ _ (_ :: _ :: Q.H r36 q90)) (fun _ h => h) ?_
            dsimp only at hm92_ hk93 hi95 hx94 hg97
            rw [← hg97] at hi95
            have hm92 : q90.M = E5 := by rw [hm92_, hqM2]; exact ev_none2 hno
            have he96 : q.M.evict.1 = none := by rw [hqM2]; exact hno
            rw [he96] at hx94
            refine Pre.setV (t := 170) (c := evV none en91) rfl (by rw [he96]) ?_
            refine l_q rfl (q_move rfl rfl) rfl rfl ?_
            refine l_q rfl (q_extract rfl rfl rfl) rfl rfl ?_
            refine l_q rfl (q_extract rfl rfl rfl) rfl rfl ?_
            refine l_q rfl (q_extract rfl rfl rfl) rfl rfl ?_
            refine l_q rfl (q_extract rfl rfl rfl) rfl rfl ?_
            refine l_e rfl ?_
            refine e_alloc rfl rfl rfl Try.zeroValue37 ?_
            intro bz
            refine cells_eq (show _ = nv0.c from rfl) ?_
            refine l_q rfl (q_assign rfl rfl) rfl rfl ?_
            refine l_e rfl ?_
            refine e_storeAgg rfl rfl Try.sizeOf37 rfl rfl rfl (NV.one _) (by show 0 + 5 ≤ 5; decide) ?_
            refine cells_eq (show Sep.splice _ 0 (nv0).c = (nv0).c from Sep.splice_all rfl) ?_
            refine l_q rfl (q_assign rfl rfl) rfl rfl ?_
            refine l_q rfl (q_assign rfl rfl) rfl rfl ?_
            refine l_nil ?_
            refine k_then ?_
            refine c_seq ?_
            refine c_region _ rfl ?_
            refine l_q rfl (q_move rfl rfl) rfl rfl ?_
            refine l_q rfl (q_lenV rfl Try.underlying28 rfl (fun _ h => h.rd 1 rfl)) rfl rfl ?_
            refine l_q rfl (q_eql rfl rfl rfl) rfl rfl ?_
            refine l_q rfl (q_move rfl rfl) rfl rfl ?_
            refine Pre.setB (t := 178) (c := true) rfl (by first | rfl | (simp [hwl]; done)) ?_
            refine l_q rfl (q_move rfl rfl) rfl rfl ?_
            refine l_q rfl (q_not rfl rfl) rfl rfl ?_
            refine l_q rfl (q_pick_t rfl rfl rfl) rfl rfl ?_
            refine l_q rfl (q_move rfl rfl) rfl rfl ?_
            refine Pre.setB (t := 182) (c := true) rfl (by first | rfl | (simp [hwl]; done)) ?_
            refine l_q rfl (q_move rfl rfl) rfl rfl ?_
            refine l_e rfl ?_
            refine e_callH [_, _, _] (qfree hk93 ) rfl rfl rfl Try.call18 rfl (fun _ _ => trivial) ?_
            rintro _ _
            refine Pre.world (St _ _ (_ :: _ :: _ :: Q.H r36 q90)) (fun _ h => h) ?_
            refine Pre.setV (t := 184) (c := .int .i64 5) rfl (by rw [hm92]; exact congrArg _ (congrArg _ hfr)) ?_
            refine l_q rfl (q_eql rfl rfl rfl) rfl rfl ?_
            refine l_q rfl (q_pick_t rfl rfl rfl) rfl rfl ?_
            refine l_q rfl (q_move rfl rfl) rfl rfl ?_
            refine Pre.setB (t := 187) (c := true) rfl (by first | rfl | (simp [hwl]; done)) ?_
            refine l_e rfl ?_
            refine e_call_00 (awake_spec) rfl rfl rfl Try.call15 rfl (fun _ _ => trivial) ?_
            intro _ _
            refine l_q rfl (q_pick_t rfl rfl rfl) rfl rfl ?_
            refine l_q rfl (q_assign rfl rfl) rfl rfl ?_
            refine l_nil ?_
            refine k_then ?_
            refine c_ret ?_
            refine r_one rfl rfl ?_
            exact fun _ h => ⟨(), rfl, trivial, h.nothing⟩
    · try simp only [decide_eq_true_eq, decide_eq_false_iff_not, Bool.not_eq_true', Bool.not_eq_false'] at h1
      obtain ⟨h, hh, hh6⟩ : ∃ h : Nat, n % 6 = (h : Int) ∧ h < 6 := ⟨(n % 6).toNat, by omega, by omega⟩
      obtain ⟨hw5, hev, hno, hfr, hf6⟩ := ck_facts hrs hh6
      refine l_not rfl rfl rfl ?_
      refine l_not rfl rfl rfl ?_
      refine l_q rfl (q_pick_f rfl rfl rfl) rfl rfl ?_
      refine l_nil ?_
      refine k_then ?_
      refine c_false rfl ?_
      refine c_exit ?_
      refine k_then_exit ?_
      refine k_then_exit ?_
      refine k_block_exit ?_
      refine k_then ?_
      refine c_seq ?_
      refine c_region _ rfl ?_
      refine l_q rfl (q_move rfl rfl) rfl rfl ?_
      refine l_q rfl (q_rem_nn rfl rfl rfl (by omega) (by omega)) rfl rfl ?_
      refine l_q rfl (q_conv_in rfl Try.underlying5 Try.underlying3 rfl (by first | rfl | (simp only [IntKind.wrap]; omega) | exact wrap64_in (by omega))) rfl rfl ?_
      refine l_q rfl (q_assign rfl rfl) rfl rfl ?_
      refine l_nil ?_
      refine k_then ?_
      refine c_seq ?_
      refine Pre.setV (t := 13) (c := .int .i64 (h : Int)) rfl (by rw [hh]) ?_
      refine c_region _ rfl ?_
      refine l_q rfl (q_move rfl rfl) rfl rfl ?_
      refine l_q rfl (q_move rfl rfl) rfl rfl ?_
      refine l_e rfl ?_
      refine e_callH [] (qpin hqk (by omega) (1) ((h : Int)) (i64_in (by omega) (by omega))) rfl rfl rfl Try.call12 rfl (fun _ _ => trivial) ?_
      rintro q98 ⟨hm99_, _, hk100⟩
      refine Pre.world (St _ _ (Q.H r36 q98)) (fun _ h => h) ?_
      have hm99 : q98.M = (ckM rs h) := by rw [hm99_, hqM]; try rfl
      refine l_nil ?_
      refine k_then ?_
      refine c_seq ?_
      refine c_region _ rfl ?_
      refine l_q rfl (q_move rfl rfl) rfl rfl ?_
      refine l_e rfl ?_
      refine e_callH [] (qframes0 hk100) rfl rfl rfl Try.call16 rfl (fun _ _ => trivial) ?_
      rintro ⟨v101, fl102⟩ hf103
      refine Pre.world (St _ _ (rowE v101 44 FC.encA fl102 :: Q.H r36 q98)) (fun _ h => h) ?_
      dsimp only at hf103
      rw [hm99] at hf103
      refine l_q rfl (q_assign rfl rfl) rfl rfl ?_
      refine l_nil ?_
      refine k_then ?_
      refine c_seq ?_
      refine c_seq ?_
      refine c_region _ rfl ?_
      refine l_q rfl (q_move rfl rfl) rfl rfl ?_
      refine l_q rfl (q_lenV rfl Try.underlying39 rfl (fun _ h => h.rd 0 rfl)) rfl rfl ?_
      refine l_q rfl (q_neq rfl rfl rfl) rfl rfl ?_
      refine l_nil ?_
      refine k_then ?_
      have hl6 : fl102.length = 6 := frs_len hf103 hf6
      refine Pre.setB (t := 113) (c := false) rfl (by simp [hl6]) ?_
      refine c_false rfl ?_
      refine c_skip ?_
      refine k_then ?_
      refine c_seq ?_
      refine c_region _ rfl ?_
      refine l_q rfl (q_assign rfl rfl) rfl rfl ?_
      refine l_q rfl (q_assign rfl rfl) rfl rfl ?_
      refine l_nil ?_
      refine k_then ?_
      refine c_seq ?_
      refine c_seq ?_
      refine c_region _ rfl ?_
      refine l_q rfl (q_assign rfl rfl) rfl rfl ?_
      refine l_nil ?_
      refine k_then ?_
      refine c_block ?_
      refine row0 4 encB none ?_
      refine row0 4 encB none ?_
      refine c_loop3 (fun (m : Nat) (v1 : Value) (v2 : Value) => [(5, .pointer (some ⟨r36, 0, none⟩)), (14, v101), (15, v1), (16, v2), (17, .int .i64 (m : Int))]) (fun (m : Nat) (v1 : Value) (v2 : Value) => St w [] (rowE v1 4 encB ((fl102.take m).map (fun f => decide (f.pins = 0))) :: rowE v2 4 encB ((fl102.take m).map FC.ref) :: rowE v101 44 FC.encA fl102 :: Q.H r36 q98)) (fun (m : Nat) (v1 : Value) (v2 : Value) => m ≤ 6) (fun (m : Nat) (v1 : Value) (v2 : Value) => 6 - m) (0) (.slice none 0 0) (.slice none 0 0) (Nat.zero_le _) (Sub.cons rfl (Sub.cons rfl (Sub.cons rfl (Sub.cons rfl (Sub.cons rfl (Sub.nil)))))) (fun _ h => h) ?_
      intro m v1 v2 hi6
      refine c_seq ?_
      refine c_seq ?_
      have hcl : ((fl102.take m).map (fun f => decide (f.pins = 0))).length ≤ m := by rw [List.length_map, List.length_take]; omega
      have hrl : ((fl102.take m).map FC.ref).length ≤ m := by rw [List.length_map, List.length_take]; omega
      refine c_region _ rfl ?_
      refine l_q rfl (q_move rfl rfl) rfl rfl ?_
      refine l_q rfl (q_lss rfl rfl rfl) rfl rfl ?_
      refine l_nil ?_
      refine k_then ?_
      refine Pre.caseB 115 rfl (fun h3 => ?_) (fun h3 => ?_)
      · try simp only [decide_eq_true_eq, decide_eq_false_iff_not, Bool.not_eq_true', Bool.not_eq_false'] at h3
        obtain ⟨f, hfi⟩ : ∃ f, fl102[m]? = some f := ⟨_, List.getElem?_eq_getElem (by omega)⟩
        have hcs : ((fl102.take m).map (fun f => decide (f.pins = 0))) ++ [decide (f.pins = 0)] = ((fl102.take (m + 1)).map (fun f => decide (f.pins = 0))) := by rw [List.take_add_one, hfi, List.map_append]; rfl
        have hrs2 : ((fl102.take m).map FC.ref) ++ [f.ref] = ((fl102.take (m + 1)).map FC.ref) := by rw [List.take_add_one, hfi, List.map_append]; rfl
        refine c_true rfl ?_
        refine c_skip ?_
        refine k_then ?_
        refine c_seq ?_
        refine c_block ?_
        refine c_any (fun w2 => RdV w2 v101 FC.encA fl102) rfl St.drawn ?_
        refine a_q (blind_block (blind_then (blind_then (blind_block (blind_then blind_body))))) 0 rfl (by kernel_rfl) (by kernel_rfl) (by kernel_rfl) (fun _ h => h.rd 2 rfl) rfl (q_move rfl rfl) rfl rfl ?_
        refine a_q (blind_block (blind_then (blind_then (blind_block (blind_then blind_body))))) 1 rfl (by kernel_rfl) (by kernel_rfl) (by kernel_rfl) (fun _ h => h.rd 2 rfl) rfl (q_move rfl rfl) rfl rfl ?_
        refine a_q (blind_block (blind_then (blind_then (blind_block (blind_then blind_body))))) 2 rfl (by kernel_rfl) (by kernel_rfl) (by kernel_rfl) (fun _ h => h.rd 2 rfl) rfl (q_move rfl rfl) rfl rfl ?_
        refine a_q (blind_block (blind_then (blind_then (blind_block (blind_then blind_body))))) 3 rfl (by kernel_rfl) (by kernel_rfl) (by kernel_rfl) (fun _ h => h.rd 2 rfl) rfl (q_indexV m rfl Try.underlying39 Try.sizeOf44 rfl (fun _ h => h) rfl rfl (by omega)) rfl rfl ?_
        refine a_q (blind_block (blind_then (blind_then (blind_block (blind_then blind_body))))) 4 rfl (by kernel_rfl) (by kernel_rfl) (by kernel_rfl) (fun _ h => h.rd 2 rfl) rfl (q_fieldAddr rfl Try.underlying44 rfl Try.sizeOf3 rfl rfl) rfl rfl ?_
        refine a_q (blind_block (blind_then (blind_then (blind_block (blind_then blind_body))))) 5 rfl (by kernel_rfl) (by kernel_rfl) (by kernel_rfl) (fun _ h => h.rd 2 rfl) rfl (q_loadV m 2 rfl Try.isAgg3 rfl rfl (fun _ h => h) hfi rfl) rfl rfl ?_
        refine a_q (blind_block (blind_then (blind_then (blind_block (blind_then blind_body))))) 6 rfl (by kernel_rfl) (by kernel_rfl) (by kernel_rfl) (fun _ h => h.rd 2 rfl) rfl (q_eql rfl rfl rfl) rfl rfl ?_
        refine a_q (blind_block (blind_then (blind_then (blind_block (blind_then blind_body))))) 9 rfl (by kernel_rfl) (by kernel_rfl) (by kernel_rfl) (fun _ h => h.rd 2 rfl) rfl (q_move rfl rfl) rfl rfl ?_
        refine a_q (blind_block (blind_then (blind_then (blind_block (blind_then blind_body))))) 10 rfl (by kernel_rfl) (by kernel_rfl) (by kernel_rfl) (fun _ h => h.rd 2 rfl) rfl (q_move rfl rfl) rfl rfl ?_
        refine a_q (blind_block (blind_then (blind_then (blind_block (blind_then blind_body))))) 11 rfl (by kernel_rfl) (by kernel_rfl) (by kernel_rfl) (fun _ h => h.rd 2 rfl) rfl (q_move rfl rfl) rfl rfl ?_
        refine a_q (blind_block (blind_then (blind_then (blind_block (blind_then blind_body))))) 12 rfl (by kernel_rfl) (by kernel_rfl) (by kernel_rfl) (fun _ h => h.rd 2 rfl) rfl (q_indexV m rfl Try.underlying39 Try.sizeOf44 rfl (fun _ h => h) rfl rfl (by omega)) rfl rfl ?_
        refine a_q (blind_block (blind_then (blind_then (blind_block (blind_then blind_body))))) 13 rfl (by kernel_rfl) (by kernel_rfl) (by kernel_rfl) (fun _ h => h.rd 2 rfl) rfl (q_fieldAddr rfl Try.underlying44 rfl Try.sizeOf4 rfl rfl) rfl rfl ?_
        refine a_q (blind_block (blind_then (blind_then (blind_block (blind_then blind_body))))) 14 rfl (by kernel_rfl) (by kernel_rfl) (by kernel_rfl) (fun _ h => h.rd 2 rfl) rfl (q_loadV m 3 rfl Try.isAgg4 rfl rfl (fun _ h => h) hfi rfl) rfl rfl ?_
        refine a_all2 7 15 (by kernel_rfl) rfl rfl rfl rfl ?_ ?_ 
        · refine e_buildSliceV (sz := 1) [.tmp 124] rfl rfl rfl rfl rfl Try.underlying49 Try.sizeOf4 rfl Try.zeroValue4 rfl ?_
          intro b6
          refine d_held (fun _ h => h.rd 3 rfl) ?_
          refine a_all2 8 15 (by kernel_rfl) rfl rfl rfl rfl ?_ ?_ 
          · refine pull1 ?_
            refine e_append rfl rfl rfl Try.underlying49 Try.underlying49 info4 rfl rfl rfl rfl rfl (fun _ h => lit_rd (h.at 1 rfl) encB [(decide (f.pins = 0))] rfl rfl) (by simp only [byt4, List.length_append, List.length_cons, List.length_nil]; omega) (by simp only [List.length_append, List.length_cons, List.length_nil]; omega) ?_
            intro vk
            refine row_eq (hcs) ?_
            refine pull1 ?_
            refine drop0 ?_
            refine d_held (fun _ h => h.rd 2 rfl) ?_
            refine a_all1 15 (by kernel_rfl) rfl rfl ?_
            refine e_buildSliceV (sz := 1) [.tmp 132] rfl rfl rfl rfl rfl Try.underlying49 Try.sizeOf4 rfl Try.zeroValue4 rfl ?_
            intro b7
            refine d_held (fun _ h => h.rd 3 rfl) ?_
            refine pull2 ?_
            refine a_all1 16 (by kernel_rfl) rfl rfl ?_
            refine e_append rfl rfl rfl Try.underlying49 Try.underlying49 info4 rfl rfl rfl rfl rfl (fun _ h => lit_rd (h.at 1 rfl) encB [f.ref] rfl rfl) (by simp only [byt4, List.length_append, List.length_cons, List.length_nil]; omega) (by simp only [List.length_append, List.length_cons, List.length_nil]; omega) ?_
            intro vr
            refine row_eq (hrs2) ?_
            refine pull1 ?_
            refine drop0 ?_
            refine d_held (fun _ h => h.rd 2 rfl) ?_
            refine a_q (blind_block (blind_then (blind_then (blind_block (blind_then blind_body))))) 17 rfl (by kernel_rfl) (by kernel_rfl) (by kernel_rfl) (fun _ h => h.rd 2 rfl) rfl (q_assign rfl rfl) rfl rfl ?_
            refine a_q (blind_block (blind_then (blind_then (blind_block (blind_then blind_body))))) 18 rfl (by kernel_rfl) (by kernel_rfl) (by kernel_rfl) (fun _ h => h.rd 2 rfl) rfl (q_assign rfl rfl) rfl rfl ?_
            refine a_nil (by kernel_rfl) ?_
            refine k_block ?_
            refine k_then ?_
            refine c_region _ rfl ?_
            refine l_q rfl (q_move rfl rfl) rfl rfl ?_
            refine l_q rfl (q_inc rfl rfl rfl (by omega)) rfl rfl ?_
            refine l_q rfl (q_assign rfl rfl) rfl rfl ?_
            refine l_nil ?_
            refine pull2 ?_
            refine pull1 ?_
            refine pull2 ?_
            exact k_round ((m + 1, vk, vr)) (by dsimp only; omega) (by dsimp only; omega) (Sub.cons rfl (Sub.cons rfl (Sub.cons rfl (Sub.cons rfl (Sub.cons rfl (Sub.nil)))))) (fun _ h => h)
          · refine e_buildSliceV (sz := 1) [.tmp 132] rfl rfl rfl rfl rfl Try.underlying49 Try.sizeOf4 rfl Try.zeroValue4 rfl ?_
            intro b8
            refine d_held (fun _ h => h.rd 4 rfl) ?_
            refine pull2 ?_
            refine a_all1 8 (by kernel_rfl) rfl rfl ?_
            refine e_append rfl rfl rfl Try.underlying49 Try.underlying49 info4 rfl rfl rfl rfl rfl (fun _ h => lit_rd (h.at 2 rfl) encB [(decide (f.pins = 0))] rfl rfl) (by simp only [byt4, List.length_append, List.length_cons, List.length_nil]; omega) (by simp only [List.length_append, List.length_cons, List.length_nil]; omega) ?_
            intro vk
            refine row_eq (hcs) ?_
            refine pull2 ?_
            refine drop0 ?_
            refine d_held (fun _ h => h.rd 3 rfl) ?_
            refine pull2 ?_
            refine a_all1 16 (by kernel_rfl) rfl rfl ?_
            refine e_append rfl rfl rfl Try.underlying49 Try.underlying49 info4 rfl rfl rfl rfl rfl (fun _ h => lit_rd (h.at 2 rfl) encB [f.ref] rfl rfl) (by simp only [byt4, List.length_append, List.length_cons, List.length_nil]; omega) (by simp only [List.length_append, List.length_cons, List.length_nil]; omega) ?_
            intro vr
            refine row_eq (hrs2) ?_
            refine pull2 ?_
            refine drop0 ?_
            refine d_held (fun _ h => h.rd 2 rfl) ?_
            refine a_q (blind_block (blind_then (blind_then (blind_block (blind_then blind_body))))) 17 rfl (by kernel_rfl) (by kernel_rfl) (by kernel_rfl) (fun _ h => h.rd 2 rfl) rfl (q_assign rfl rfl) rfl rfl ?_
            refine a_q (blind_block (blind_then (blind_then (blind_block (blind_then blind_body))))) 18 rfl (by kernel_rfl) (by kernel_rfl) (by kernel_rfl) (fun _ h => h.rd 2 rfl) rfl (q_assign rfl rfl) rfl rfl ?_
            refine a_nil (by kernel_rfl) ?_
            refine k_block ?_
            refine k_then ?_
            refine c_region _ rfl ?_
            refine l_q rfl (q_move rfl rfl) rfl rfl ?_
            refine l_q rfl (q_inc rfl rfl rfl (by omega)) rfl rfl ?_
            refine l_q rfl (q_assign rfl rfl) rfl rfl ?_
            refine l_nil ?_
            refine pull2 ?_
            refine pull1 ?_
            refine pull2 ?_
            exact k_round ((m + 1, vk, vr)) (by dsimp only; omega) (by dsimp only; omega) (Sub.cons rfl (Sub.cons rfl (Sub.cons rfl (Sub.cons rfl (Sub.cons rfl (Sub.nil)))))) (fun _ h => h)
        · refine e_buildSliceV (sz := 1) [.tmp 132] rfl rfl rfl rfl rfl Try.underlying49 Try.sizeOf4 rfl Try.zeroValue4 rfl ?_
          intro b9
          refine d_held (fun _ h => h.rd 3 rfl) ?_
          refine a_all1 7 (by kernel_rfl) rfl rfl ?_
          refine e_buildSliceV (sz := 1) [.tmp 124] rfl rfl rfl rfl rfl Try.underlying49 Try.sizeOf4 rfl Try.zeroValue4 rfl ?_
          intro b10
          refine d_held (fun _ h => h.rd 4 rfl) ?_
          refine pull2 ?_
          refine a_all1 8 (by kernel_rfl) rfl rfl ?_
          refine e_append rfl rfl rfl Try.underlying49 Try.underlying49 info4 rfl rfl rfl rfl rfl (fun _ h => lit_rd (h.at 1 rfl) encB [(decide (f.pins = 0))] rfl rfl) (by simp only [byt4, List.length_append, List.length_cons, List.length_nil]; omega) (by simp only [List.length_append, List.length_cons, List.length_nil]; omega) ?_
          intro vk
          refine row_eq (hcs) ?_
          refine pull1 ?_
          refine drop0 ?_
          refine d_held (fun _ h => h.rd 3 rfl) ?_
          refine pull2 ?_
          refine a_all1 16 (by kernel_rfl) rfl rfl ?_
          refine e_append rfl rfl rfl Try.underlying49 Try.underlying49 info4 rfl rfl rfl rfl rfl (fun _ h => lit_rd (h.at 2 rfl) encB [f.ref] rfl rfl) (by simp only [byt4, List.length_append, List.length_cons, List.length_nil]; omega) (by simp only [List.length_append, List.length_cons, List.length_nil]; omega) ?_
          intro vr
          refine row_eq (hrs2) ?_
          refine pull2 ?_
          refine drop0 ?_
          refine d_held (fun _ h => h.rd 2 rfl) ?_
          refine a_q (blind_block (blind_then (blind_then (blind_block (blind_then blind_body))))) 17 rfl (by kernel_rfl) (by kernel_rfl) (by kernel_rfl) (fun _ h => h.rd 2 rfl) rfl (q_assign rfl rfl) rfl rfl ?_
          refine a_q (blind_block (blind_then (blind_then (blind_block (blind_then blind_body))))) 18 rfl (by kernel_rfl) (by kernel_rfl) (by kernel_rfl) (fun _ h => h.rd 2 rfl) rfl (q_assign rfl rfl) rfl rfl ?_
          refine a_nil (by kernel_rfl) ?_
          refine k_block ?_
          refine k_then ?_
          refine c_region _ rfl ?_
          refine l_q rfl (q_move rfl rfl) rfl rfl ?_
          refine l_q rfl (q_inc rfl rfl rfl (by omega)) rfl rfl ?_
          refine l_q rfl (q_assign rfl rfl) rfl rfl ?_
          refine l_nil ?_
          refine pull2 ?_
          refine pull1 ?_
          refine pull2 ?_
          exact k_round ((m + 1, vk, vr)) (by dsimp only; omega) (by dsimp only; omega) (Sub.cons rfl (Sub.cons rfl (Sub.cons rfl (Sub.cons rfl (Sub.cons rfl (Sub.nil)))))) (fun _ h => h)
      · try simp only [decide_eq_true_eq, decide_eq_false_iff_not, Bool.not_eq_true', Bool.not_eq_false'] at h3
        have hce : ((fl102.take m).map (fun f => decide (f.pins = 0))) = canP (ckM rs h) := by rw [List.take_of_length_le (by omega)]; exact canP_eq (M := ckM rs h) hf103
        have hre : ((fl102.take m).map FC.ref) = (ckM rs h).rfs := by rw [List.take_of_length_le (by omega)]; exact rfsP_eq hf103
        rw [hce, hre]
        have hcp : (canP (ckM rs h)).length = 6 := by unfold canP; rw [List.length_map]; exact hf6
        refine c_false rfl ?_
        refine c_exit ?_
        refine k_then_exit ?_
        refine k_then_exit ?_
        refine k_block_exit ?_
        refine k_then ?_
        refine c_seq ?_
        refine c_region _ rfl ?_
        refine l_q rfl (q_move rfl rfl) rfl rfl ?_
        refine l_q rfl (q_move rfl rfl) rfl rfl ?_
        refine l_e rfl ?_
        refine e_call_01 (rorder_spec (canP (ckM rs h)) (ckM rs h).rfs 1 (by decide) (by omega)) rfl rfl rfl Try.call21 rfl (fun _ h => ⟨h.rd 0 rfl, h.rd 1 rfl⟩) ?_
        intro vw _
        refine row_eq (show _ = (nints (ckW rs h)) from rfl) ?_
        refine l_q rfl (q_assign rfl rfl) rfl rfl ?_
        refine l_nil ?_
        refine k_then ?_
        refine c_seq ?_
        refine c_seq ?_
        refine c_region _ rfl ?_
        refine l_q rfl (q_assign rfl rfl) rfl rfl ?_
        refine l_nil ?_
        refine k_then ?_
        refine c_block ?_
        have hwl : (nints (ckW rs h)).length = 5 := by rw [nints_len']; exact hw5
        refine pull1 ?_
        refine drop0 ?_
        refine pull1 ?_
        refine drop0 ?_
        refine c_loop2 (fun (j : Nat) (q : Q) => [(5, .pointer (some ⟨r36, 0, none⟩)), (14, v101), (18, vw), (19, .int .i64 (j : Int))]) (fun (j : Nat) (q : Q) => St w [] (rowE vw 3 (encI .i64) (nints (ckW rs h)) :: rowE v101 44 FC.encA fl102 :: Q.H r36 q)) (fun (j : Nat) (q : Q) => j ≤ 5 ∧ q.M = evs (ckM rs h) j ∧ q.Ok (((7 + i) + 1))) (fun (j : Nat) (q : Q) => 5 - j) (0) (q98) ⟨Nat.zero_le _, hm99, hk100⟩ (Sub.cons rfl (Sub.cons rfl (Sub.cons rfl (Sub.cons rfl (Sub.nil))))) (fun _ h => h) ?_
        intro j q hp
        refine c_seq ?_
        refine c_seq ?_
        obtain ⟨hj5, hqM2, hqk2⟩ := hp
        refine c_region _ rfl ?_
        refine l_q rfl (q_move rfl rfl) rfl rfl ?_
        refine l_q rfl (q_move rfl rfl) rfl rfl ?_
        refine l_q rfl (q_lenV rfl Try.underlying28 rfl (fun _ h => h.rd 0 rfl)) rfl rfl ?_
        refine l_q rfl (q_lss rfl rfl rfl) rfl rfl ?_
        refine l_nil ?_
        refine k_then ?_
        refine Pre.caseB 141 rfl (fun h4 => ?_) (fun h4 => ?_)
        · try simp only [decide_eq_true_eq, decide_eq_false_iff_not, Bool.not_eq_true', Bool.not_eq_false'] at h4
          obtain ⟨y, k, hye, hwk, hyb, hyd, hk6, hkb⟩ := hev j (by omega)
          obtain ⟨f, hfk, hfb⟩ := fr_blk hf103 hkb
          have hwj := nints_at hwk
          refine c_true rfl ?_
          refine c_skip ?_
          refine k_then ?_
          refine c_seq ?_
          refine c_block ?_
          refine c_seq ?_
          refine c_region _ rfl ?_
          refine l_q rfl (q_move rfl rfl) rfl rfl ?_
          refine l_e rfl ?_
          refine e_callH [_, _] (qevict hqk2) rfl rfl rfl Try.call20 rfl (fun _ _ => trivial) ?_
          rintro ⟨q104, en105⟩ ⟨hm106_, hg111, hk107, hi109, hx108⟩
          refine Pre.world (St _ _ (_ :: _ :: Q.H r36 q104)) (fun _ h => h) ?_
          dsimp only at hm106_ hk107 hi109 hx108 hg111
          rw [← hg111] at hi109
          have hm106 : q104.M = (evs (ckM rs h) (j + 1)) := by rw [hm106_, hqM2]; try rfl
          have he110 : q.M.evict.1 = (some y) := by rw [hqM2]; exact hye
          rw [he110] at hx108
          refine Pre.setV (t := 146) (c := evV (some y) en105) rfl (by rw [he110]) ?_
          refine l_q rfl (q_move rfl rfl) rfl rfl ?_
          refine l_q rfl (q_extract rfl rfl rfl) rfl rfl ?_
          refine l_q rfl (q_extract rfl rfl rfl) rfl rfl ?_
          refine l_q rfl (q_extract rfl rfl rfl) rfl rfl ?_
          refine l_q rfl (q_extract rfl rfl rfl) rfl rfl ?_
          refine l_e rfl ?_
          refine e_alloc rfl rfl rfl Try.zeroValue37 ?_
          intro bz
          refine cells_eq (show _ = nv0.c from rfl) ?_
          refine l_q rfl (q_assign rfl rfl) rfl rfl ?_
          refine l_e rfl ?_
          refine e_storeAgg rfl rfl Try.sizeOf37 rfl rfl rfl (NV.one _) (by show 0 + 5 ≤ 5; decide) ?_
          refine cells_eq (show Sep.splice _ 0 (en105).c = (en105).c from Sep.splice_all rfl) ?_
          refine l_q rfl (q_assign rfl rfl) rfl rfl ?_
          refine l_q rfl (q_assign rfl rfl) rfl rfl ?_
          refine l_nil ?_
          refine k_then ?_
          refine c_seq ?_
          refine c_region _ rfl ?_
          refine l_q rfl (q_move rfl rfl) rfl rfl ?_
          refine l_q rfl (q_not rfl rfl) rfl rfl ?_
          refine l_q rfl (q_move rfl rfl) rfl rfl ?_
          refine drop0 ?_
          refine Pre.setB (t := 153) (c := false) rfl (by first | rfl | (simp [hyb, hfb, hyd]; done)) ?_
          refine l_q rfl (q_move rfl rfl) rfl rfl ?_
          refine l_q rfl (q_move rfl rfl) rfl rfl ?_
          refine l_q rfl (q_move rfl rfl) rfl rfl ?_
          refine l_q rfl (q_move rfl rfl) rfl rfl ?_
          refine l_q rfl (q_indexV j rfl Try.underlying28 Try.sizeOf3 rfl (fun _ h => h.rd 0 rfl) rfl rfl (by omega)) rfl rfl ?_
          refine l_q rfl (q_loadV j 0 rfl Try.isAgg3 rfl rfl (fun _ h => h.rd 0 rfl) hwj rfl) rfl rfl ?_
          refine l_q rfl (q_indexV k rfl Try.underlying39 Try.sizeOf44 rfl (fun _ h => h.rd 1 rfl) rfl rfl (by omega)) rfl rfl ?_
          refine l_q rfl (q_fieldAddr rfl Try.underlying44 rfl Try.sizeOf3 rfl rfl) rfl rfl ?_
          refine l_q rfl (q_loadV k 1 rfl Try.isAgg3 rfl rfl (fun _ h => h.rd 1 rfl) hfk rfl) rfl rfl ?_
          refine l_q rfl (q_neq rfl rfl rfl) rfl rfl ?_
          refine l_q rfl (q_pick_f rfl rfl rfl) rfl rfl ?_
          refine l_q rfl (q_move rfl rfl) rfl rfl ?_
          refine Pre.setB (t := 165) (c := false) rfl (by first | rfl | (simp [hyb, hfb, hyd]; done)) ?_
          refine l_q rfl (q_move rfl rfl) rfl rfl ?_
          refine l_q rfl (q_pick_f rfl rfl rfl) rfl rfl ?_
          refine l_nil ?_
          refine k_then ?_
          refine Pre.setB (t := 167) (c := false) rfl (by first | rfl | (simp [hyb, hfb, hyd]; done)) ?_
          refine c_false rfl ?_
          refine c_skip ?_
          refine k_block ?_
          refine k_then ?_
          refine c_region _ rfl ?_
          refine l_q rfl (q_move rfl rfl) rfl rfl ?_
          refine l_q rfl (q_inc rfl rfl rfl (by omega)) rfl rfl ?_
          refine l_q rfl (q_assign rfl rfl) rfl rfl ?_
          refine l_nil ?_
          exact k_round ((j + 1, q104)) (by dsimp only; omega) ⟨by dsimp only; omega, hm106, hk107⟩ (Sub.cons rfl (Sub.cons rfl (Sub.cons rfl (Sub.cons rfl (Sub.nil))))) (fun _ h => h)
        · try simp only [decide_eq_true_eq, decide_eq_false_iff_not, Bool.not_eq_true', Bool.not_eq_false'] at h4
          have hj : j = 5 := by omega
          subst hj
          obtain ⟨E5, hE5⟩ : ∃ M, M = evs (ckM rs h) 5 := ⟨_, rfl⟩
          rw [← hE5] at hno hfr hqM2
          refine c_false rfl ?_
          refine c_exit ?_
          refine k_then_exit ?_
          refine k_then_exit ?_
          refine k_block_exit ?_
          refine k_then ?_
          refine c_seq ?_
          refine c_region _ rfl ?_
          refine l_q rfl (q_move rfl rfl) rfl rfl ?_
          refine l_e rfl ?_
          refine e_callH [_, _] (qevict hqk2) rfl rfl rfl Try.call20 rfl (fun _ _ => trivial) ?_
          rintro ⟨q112, en113⟩ ⟨hm114_, hg119, hk115, hi117, hx116⟩
          refine Pre.world (St _ _ (_ :: _ :: Q.H r36 q112)) (fun _ h => h) ?_
          dsimp only at hm114_ hk115 hi117 hx116 hg119
          rw [← hg119] at hi117
          have hm114 : q112.M = E5 := by rw [hm114_, hqM2]; exact ev_none2 hno
          have he118 : q.M.evict.1 = none := by rw [hqM2]; exact hno
          rw [he118] at hx116
          refine Pre.setV (t := 170) (c := evV none en113) rfl (by rw [he118]) ?_
          refine l_q rfl (q_move rfl rfl) rfl rfl ?_
          refine l_q rfl (q_extract rfl rfl rfl) rfl rfl ?_
          refine l_q rfl (q_extract rfl rfl rfl) rfl rfl ?_
          refine l_q rfl (q_extract rfl rfl rfl) rfl rfl ?_
          refine l_q rfl (q_extract rfl rfl rfl) rfl rfl ?_
          refine l_e rfl ?_
          refine e_alloc rfl rfl rfl Try.zeroValue37 ?_
          intro bz
          refine cells_eq (show _ = nv0.c from rfl) ?_
          refine l_q rfl (q_assign rfl rfl) rfl rfl ?_
          refine l_e rfl ?_
          refine e_storeAgg rfl rfl Try.sizeOf37 rfl rfl rfl (NV.one _) (by show 0 + 5 ≤ 5; decide) ?_
          refine cells_eq (show Sep.splice _ 0 (nv0).c = (nv0).c from Sep.splice_all rfl) ?_
          refine l_q rfl (q_assign rfl rfl) rfl rfl ?_
          refine l_q rfl (q_assign rfl rfl) rfl rfl ?_
          refine l_nil ?_
          refine k_then ?_
          refine c_seq ?_
          refine c_region _ rfl ?_
          refine l_q rfl (q_move rfl rfl) rfl rfl ?_
          refine l_q rfl (q_lenV rfl Try.underlying28 rfl (fun _ h => h.rd 1 rfl)) rfl rfl ?_
          refine l_q rfl (q_eql rfl rfl rfl) rfl rfl ?_
          refine l_q rfl (q_move rfl rfl) rfl rfl ?_
          refine Pre.setB (t := 178) (c := true) rfl (by first | rfl | (simp [hwl]; done)) ?_
          refine l_q rfl (q_move rfl rfl) rfl rfl ?_
          refine l_q rfl (q_not rfl rfl) rfl rfl ?_
          refine l_q rfl (q_pick_t rfl rfl rfl) rfl rfl ?_
          refine l_q rfl (q_move rfl rfl) rfl rfl ?_
          refine Pre.setB (t := 182) (c := true) rfl (by first | rfl | (simp [hwl]; done)) ?_
          refine l_q rfl (q_move rfl rfl) rfl rfl ?_
          refine l_e rfl ?_
          refine e_callH [_, _, _] (qfree hk115 ) rfl rfl rfl Try.call18 rfl (fun _ _ => trivial) ?_
          rintro _ _
          refine Pre.world (St _ _ (_ :: _ :: _ :: Q.H r36 q112)) (fun _ h => h) ?_
          refine Pre.setV (t := 184) (c := .int .i64 5) rfl (by rw [hm114]; exact congrArg _ (congrArg _ hfr)) ?_
          refine l_q rfl (q_eql rfl rfl rfl) rfl rfl ?_
          refine l_q rfl (q_pick_t rfl rfl rfl) rfl rfl ?_
          refine l_q rfl (q_move rfl rfl) rfl rfl ?_
          refine Pre.setB (t := 187) (c := true) rfl (by first | rfl | (simp [hwl]; done)) ?_
          refine l_e rfl ?_
          refine e_call_00 (awake_spec) rfl rfl rfl Try.call15 rfl (fun _ _ => trivial) ?_
          intro _ _
          refine l_q rfl (q_pick_t rfl rfl rfl) rfl rfl ?_
          refine l_q rfl (q_assign rfl rfl) rfl rfl ?_
          refine l_nil ?_
          refine k_then ?_
          refine c_ret ?_
          refine r_one rfl rfl ?_
          exact fun _ h => ⟨(), rfl, trivial, h.nothing⟩
theorem cacheClock_walk (w : World) (A0 : Option Addr) (c0 : Nat) (z0 : List Int) (rd0 : Rd w w.heap.size A0 (z0.map (.int .u8))) (l0 : z0.length ≤ c0) (m0 : c0 ≤ maxLen) (w0 : ∀ z ∈ z0, (Lit.int .u8 z).wf = true) (a1 : Int) (w1 : (Lit.int .u8 a1).wf = true) :
    Calls Try.prog 4 #[.slice A0 z0.length c0, .int .u8 a1] w fun e w' => e = .returned (.bool true) ∧ Below w.heap.size w w' := by
  rw [← flat_u8] at rd0
  exact con_walk (clock_spec z0 w0 a1 w1) (rdv_of rd0 l0)
end Go.Proofs.Ytpfbagkjhchojaa
