/- CacheOnce, walked -/
import Derived.Test.YtpfbagkjhchojaaWo
import Derived.Test.YtpfbagkjhchojaaS9
set_option linter.unusedVariables false
set_option linter.unusedSimpArgs false
namespace Go.Proofs.Ytpfbagkjhchojaa
open Go.Sep Go.RowKit

set_option maxRecDepth 100000 in
set_option maxHeartbeats 1000000 in
theorem once_spec {va : Value} (l : List Sp) : Con Try.prog 7 [va] (fun w => RdV w va encSp l) [] (fun _ : Unit => .bool true) (fun _ => True) (fun _ => []) := by
  intro w hl hH
  refine enter (n := 195) (vs := [va]) (St w [] []) Try.func7 rfl rfl rfl (St.init hH) ?_
  refine c_seq ?_
  refine c_region _ rfl ?_
  refine l_q rfl (q_assign rfl rfl) rfl rfl ?_
  refine l_nil ?_
  refine k_then ?_
  refine c_seq ?_
  refine c_region _ rfl ?_
  refine l_e rfl ?_
  refine e_callH [] (HA := []) (qnew 6 (by decide) (by decide)) rfl rfl rfl Try.call9 rfl (fun _ _ => trivial) ?_
  rintro ⟨r36, r36_⟩ ⟨hm37, hg38, hk39⟩
  dsimp only at hm37 hg38 hk39
  refine Pre.world (St _ _ (Q.H r36 r36_)) (fun _ h => h) ?_
  refine l_q rfl (q_move rfl rfl) rfl rfl ?_
  refine l_q rfl (q_extract rfl rfl rfl) rfl rfl ?_
  refine l_q rfl (q_extract rfl rfl rfl) rfl rfl ?_
  refine l_q rfl (q_assign rfl rfl) rfl rfl ?_
  refine l_q rfl (q_assign rfl rfl) rfl rfl ?_
  refine l_nil ?_
  refine k_then ?_
  refine c_seq ?_
  refine c_seq ?_
  refine c_region _ rfl ?_
  refine l_q rfl (q_move rfl rfl) rfl rfl ?_
  refine l_q rfl (q_neq rfl rfl rfl) rfl rfl ?_
  refine l_q rfl (q_move rfl rfl) rfl rfl ?_
  refine Pre.setB (t := 18) (c := false) rfl (rfl) ?_
  refine l_q rfl (q_move rfl rfl) rfl rfl ?_
  refine l_q rfl (q_eqp rfl Try.underlying23 rfl rfl) rfl rfl ?_
  refine l_q rfl (q_pick_f rfl rfl rfl) rfl rfl ?_
  refine l_q rfl (q_move rfl rfl) rfl rfl ?_
  refine Pre.setB (t := 22) (c := false) rfl (rfl) ?_
  refine l_q rfl (q_move rfl rfl) rfl rfl ?_
  refine l_q rfl (q_lenV rfl Try.underlying58 rfl (fun _ h => hl.keep h (by simp [dom]))) rfl rfl ?_
  refine l_q rfl (q_gtr rfl rfl rfl) rfl rfl ?_
  refine l_q rfl (q_pick_f rfl rfl rfl) rfl rfl ?_
  refine l_nil ?_
  refine k_then ?_
  refine Pre.caseB 26 rfl (fun h120 => ?_) (fun h120 => ?_)
  · try simp only [decide_eq_true_eq, decide_eq_false_iff_not, Bool.not_eq_true', Bool.not_eq_false'] at h120
    refine c_true rfl ?_
    refine c_seq ?_
    refine c_region _ rfl ?_
    refine l_q rfl (q_move rfl rfl) rfl rfl ?_
    refine l_q rfl (q_eql rfl rfl rfl) rfl rfl ?_
    refine l_q rfl (q_move rfl rfl) rfl rfl ?_
    refine Pre.setB (t := 29) (c := true) rfl (rfl) ?_
    refine l_q rfl (q_move rfl rfl) rfl rfl ?_
    refine l_q rfl (q_nep rfl Try.underlying23 rfl rfl) rfl rfl ?_
    refine l_q rfl (q_pick_t rfl rfl rfl) rfl rfl ?_
    refine l_q rfl (q_move rfl rfl) rfl rfl ?_
    refine Pre.setB (t := 33) (c := true) rfl (rfl) ?_
    refine l_e rfl ?_
    refine e_call_00 (awake_spec) rfl rfl rfl Try.call15 rfl (fun _ _ => trivial) ?_
    intro _ _
    refine l_q rfl (q_pick_t rfl rfl rfl) rfl rfl ?_
    refine l_q rfl (q_assign rfl rfl) rfl rfl ?_
    refine l_nil ?_
    refine k_then ?_
    refine c_ret ?_
    refine k_then_ret ?_
    refine r_one rfl rfl ?_
    exact fun _ h => ⟨(), rfl, trivial, h.nothing⟩
  · try simp only [decide_eq_true_eq, decide_eq_false_iff_not, Bool.not_eq_true', Bool.not_eq_false'] at h120
    refine c_false rfl ?_
    refine c_skip ?_
    refine k_then ?_
    refine c_seq ?_
    refine c_region _ rfl ?_
    refine l_q rfl (q_move rfl rfl) rfl rfl ?_
    refine l_e rfl ?_
    refine e_callH [] (qframes0 hk39) rfl rfl rfl Try.call16 rfl (fun _ _ => trivial) ?_
    rintro ⟨v40, fl41⟩ hf42
    refine Pre.world (St _ _ (rowE v40 44 FC.encA fl41 :: Q.H r36 r36_)) (fun _ h => h) ?_
    dsimp only at hf42
    rw [hm37] at hf42
    refine l_q rfl (q_assign rfl rfl) rfl rfl ?_
    refine l_nil ?_
    refine k_then ?_
    refine c_seq ?_
    refine c_seq ?_
    refine c_region _ rfl ?_
    refine l_q rfl (q_move rfl rfl) rfl rfl ?_
    refine l_q rfl (q_lenV rfl Try.underlying39 rfl (fun _ h => h.rd 0 rfl)) rfl rfl ?_
    refine l_q rfl (q_neq rfl rfl rfl) rfl rfl ?_
    refine l_nil ?_
    refine k_then ?_
    have h6 : fl41.length = 6 := frs_len hf42 rfl
    refine Pre.setB (t := 40) (c := false) rfl (by simp [h6]) ?_
    refine c_false rfl ?_
    refine c_skip ?_
    refine k_then ?_
    refine c_seq ?_
    refine c_seq ?_
    refine c_region _ rfl ?_
    refine l_q rfl (q_assign rfl rfl) rfl rfl ?_
    refine l_nil ?_
    refine k_then ?_
    refine c_block ?_
    refine c_loop4 (fun (i : Nat) (q : Q) (v : Value) (fl : List FC) => [(0, va), (3, .pointer (some ⟨r36, 0, none⟩)), (5, v), (6, .int .i64 (i : Int))]) (fun (i : Nat) (q : Q) (v : Value) (fl : List FC) => St w [] (rowE v 44 FC.encA fl :: Q.H r36 q)) (fun (i : Nat) (q : Q) (v : Value) (fl : List FC) => i ≤ l.length ∧ q.Ok i ∧ q.M.fr.length = 6 ∧ fl.map vw = q.M.fr) (fun (i : Nat) (q : Q) (v : Value) (fl : List FC) => l.length - i) (0) (r36_) (v40) (fl41) ⟨Nat.zero_le _, hk39, by rw [hm37]; rfl, by rw [hm37]; exact hf42⟩ (Sub.cons rfl (Sub.cons rfl (Sub.cons rfl (Sub.cons rfl (Sub.nil))))) (fun _ h => h) ?_
    intro i q v fl hp
    refine c_seq ?_
    refine c_seq ?_
    obtain ⟨hi, hqk, hq6, hfl⟩ := hp
    have hf6 : fl.length = 6 := frs_len hfl hq6
    refine c_region _ rfl ?_
    refine l_q rfl (q_move rfl rfl) rfl rfl ?_
    refine l_q rfl (q_move rfl rfl) rfl rfl ?_
    refine l_q rfl (q_lenV rfl Try.underlying58 rfl (fun _ h => hl.keep h (by simp [dom]))) rfl rfl ?_
    refine l_q rfl (q_lss rfl rfl rfl) rfl rfl ?_
    refine l_nil ?_
    refine k_then ?_
    refine Pre.caseB 44 rfl (fun h1i => ?_) (fun h1i => ?_)
    · try simp only [decide_eq_true_eq, decide_eq_false_iff_not, Bool.not_eq_true', Bool.not_eq_false'] at h1i
      obtain ⟨y, hx⟩ : ∃ y, l[i]? = some y := ⟨_, List.getElem?_eq_getElem (by omega)⟩
      refine c_true rfl ?_
      refine c_skip ?_
      refine k_then ?_
      refine c_seq ?_
      refine c_block ?_
      refine c_seq ?_
      refine c_region _ rfl ?_
      refine l_q rfl (q_move rfl rfl) rfl rfl ?_
      refine l_q rfl (q_move rfl rfl) rfl rfl ?_
      refine l_q rfl (q_indexV i rfl Try.underlying58 Try.sizeOf60 rfl (fun _ h => hl.keep h (by simp [dom])) rfl rfl (by omega)) rfl rfl ?_
      refine l_q rfl (q_loadVAgg i rfl Try.isAgg60 Try.sizeOf60 rfl rfl (fun _ h => hl.keep h (by simp [dom])) hx) rfl rfl ?_
      refine l_e rfl ?_
      refine e_call_00 (few_spec y 1) rfl rfl rfl Try.call27 rfl (fun _ _ => trivial) ?_
      intro _ _
      rw [few_yes (s := y) (i := 1) (by decide)]
      obtain ⟨x, hxx⟩ : ∃ x : Sp, x = ⟨y.what, y.t % 6, y.id % 8, y.n⟩ := ⟨_, rfl⟩
      rw [← hxx]
      have hxi : 0 ≤ x.id ∧ x.id < 8 := by rw [hxx]; exact ⟨by show 0 ≤ y.id % 8; omega, by show y.id % 8 < 8; omega⟩
      refine l_e rfl ?_
      refine e_alloc rfl rfl rfl Try.zeroValue60 ?_
      intro bst
      refine cells_eq (show _ = (⟨0, 0, 0, 0⟩ : Sp).c from rfl) ?_
      refine l_e rfl ?_
      refine e_storeAgg rfl rfl Try.sizeOf60 rfl rfl rfl (Sp.one _) (by show 0 + 4 ≤ 4; decide) ?_
      refine cells_eq (show Sep.splice _ 0 (x).c = (x).c from Sep.splice_all rfl) ?_
      refine l_nil ?_
      refine k_then ?_
      refine c_seq ?_
      refine c_region _ rfl ?_
      refine l_q rfl (q_fieldAddr rfl Try.underlying60 rfl Try.sizeOf3 rfl rfl) rfl rfl ?_
      refine l_q rfl (q_loadC rfl Try.isAgg3 rfl (fun _ h => h.at 0 rfl) rfl) rfl rfl ?_
      refine l_q rfl (q_gtr rfl rfl rfl) rfl rfl ?_
      refine l_q rfl (q_assign rfl rfl) rfl rfl ?_
      refine l_nil ?_
      refine k_then ?_
      refine c_seq ?_
      refine c_meet1 (fun (q2 : Q) => [(0, va), (3, .pointer (some ⟨r36, 0, none⟩)), (5, v), (6, .int .i64 (i : Int)), (8, .bool (decide (12 < x.what)))]) (fun (q2 : Q) => St w [] (rowE v 44 FC.encA fl :: Q.H r36 q2)) (fun (q2 : Q) => q2.Ok (i + 1) ∧ q2.M.fr.length = 6 ∧ (12 < x.what → ∀ (a : Nat) (y : Vw), q.M.fr[a]? = some y → 0 < y.pins → ∃ z, q2.M.fr[a]? = some z ∧ z.st = y.st ∧ z.blk = y.blk ∧ z.pins = y.pins)) ?_ ?_
      · refine c_block ?_
        refine c_seq ?_
        refine c_region _ rfl ?_
        refine l_q rfl (q_fieldAddr rfl Try.underlying60 rfl Try.sizeOf3 rfl rfl) rfl rfl ?_
        refine l_q rfl (q_loadC rfl Try.isAgg3 rfl (fun _ h => h.at 0 rfl) rfl) rfl rfl ?_
        refine l_q rfl (q_leq rfl rfl rfl) rfl rfl ?_
        refine l_q rfl (q_assign rfl rfl) rfl rfl ?_
        refine l_nil ?_
        refine k_then ?_
        refine Pre.caseB 57 rfl (fun w1 => ?_) (fun w1 => ?_)
        · try simp only [decide_eq_true_eq, decide_eq_false_iff_not, Bool.not_eq_true', Bool.not_eq_false'] at w1
          refine c_true rfl ?_
          refine c_region _ rfl ?_
          refine l_q rfl (q_move rfl rfl) rfl rfl ?_
          refine l_q rfl (q_fieldAddr rfl Try.underlying60 rfl Try.sizeOf3 rfl rfl) rfl rfl ?_
          refine l_q rfl (q_loadC rfl Try.isAgg3 rfl (fun _ h => h.at 0 rfl) rfl) rfl rfl ?_
          refine l_q rfl (q_fieldAddr rfl Try.underlying60 rfl Try.sizeOf3 rfl rfl) rfl rfl ?_
          refine l_q rfl (q_loadC rfl Try.isAgg3 rfl (fun _ h => h.at 0 rfl) rfl) rfl rfl ?_
          refine l_e rfl ?_
          refine e_callH [_, _] (qpin hqk (by omega) (x.t) (x.id) (i64_in (by omega) (by omega))) rfl rfl rfl Try.call12 rfl (fun _ _ => trivial) ?_
          rintro q43 ⟨hm44_, _, hk45⟩
          refine Pre.world (St _ _ (_ :: _ :: Q.H r36 q43)) (fun _ h => h) ?_
          have hm44 : q43.M = (q.M.pin x.t x.id).2 := by rw [hm44_, (rfl : q.M = q.M)]
          refine l_nil ?_
          refine k_block ?_
          refine drop0 ?_
          exact k_meet (q43) ⟨hk45, by rw [hm44, pin_len, hq6], fun h => by omega⟩ (Sub.cons rfl (Sub.cons rfl (Sub.cons rfl (Sub.cons rfl (Sub.cons rfl (Sub.nil)))))) (fun _ h => h)
        · try simp only [decide_eq_true_eq, decide_eq_false_iff_not, Bool.not_eq_true', Bool.not_eq_false'] at w1
          refine c_false rfl ?_
          refine c_seq ?_
          refine c_region _ rfl ?_
          refine l_q rfl (q_fieldAddr rfl Try.underlying60 rfl Try.sizeOf3 rfl rfl) rfl rfl ?_
          refine l_q rfl (q_loadC rfl Try.isAgg3 rfl (fun _ h => h.at 0 rfl) rfl) rfl rfl ?_
          refine l_q rfl (q_leq rfl rfl rfl) rfl rfl ?_
          refine l_q rfl (q_assign rfl rfl) rfl rfl ?_
          refine l_nil ?_
          refine k_then ?_
          refine Pre.caseB 67 rfl (fun w2 => ?_) (fun w2 => ?_)
          · try simp only [decide_eq_true_eq, decide_eq_false_iff_not, Bool.not_eq_true', Bool.not_eq_false'] at w2
            refine c_true rfl ?_
            refine c_region _ rfl ?_
            refine l_q rfl (q_move rfl rfl) rfl rfl ?_
            refine l_q rfl (q_fieldAddr rfl Try.underlying60 rfl Try.sizeOf3 rfl rfl) rfl rfl ?_
            refine l_q rfl (q_loadC rfl Try.isAgg3 rfl (fun _ h => h.at 0 rfl) rfl) rfl rfl ?_
            refine l_q rfl (q_build (nvL.c) rfl rfl (fun w => by kernel_rfl)) rfl rfl ?_
            refine row0 121 En.enc none ?_
            refine pull2 ?_
            refine pull2 ?_
            refine Pre.world (St _ _ (_ :: _ :: nrow nvL :: _)) (fun _ h => h) ?_
            refine l_e rfl ?_
            refine e_callH [_, _] (qfill hqk nvL (by show 0 ≤ 1000; decide) x.id) rfl rfl rfl Try.call14 rfl (fun _ _ => trivial) ?_
            rintro ⟨q46, v47⟩ ⟨hm48_, _, hk49⟩
            refine Pre.world (St _ _ (_ :: _ :: rowE v47 3 (encI .i64) (q.M.fill x.id nvL.leaf nvL.l).1.1 :: nrow nvL :: Q.H r36 q46)) (fun _ h => h) ?_
            dsimp only at hm48_ hk49
            have hm48 : q46.M = (q.M.fill x.id nvL.leaf nvL.l).2 := by rw [hm48_, (rfl : q.M = q.M)]
            have ht50 : (q.M.fill x.id nvL.leaf nvL.l).1 = ((q.M.fill x.id nvL.leaf nvL.l).1.1, (q.M.fill x.id nvL.leaf nvL.l).1.2) := by rw [(rfl : q.M = q.M)]; try rfl
            refine pull2 ?_
            refine row_eq (show _ = (q.M.fill x.id nvL.leaf nvL.l).1.1 from congrArg Prod.fst ht50) ?_
            refine Pre.setV (t := 75) (c := .tuple #[v47, .bool (q.M.fill x.id nvL.leaf nvL.l).1.2]) rfl (by rw [congrArg Prod.snd ht50]) ?_
            refine l_nil ?_
            refine k_block ?_
            refine drop0 ?_
            refine drop0 ?_
            refine pull1 ?_
            refine drop0 ?_
            exact k_meet (q46) ⟨hk49.mono (Nat.le_succ _) (by omega), by rw [hm48, fill_len, hq6], fun h => by omega⟩ (Sub.cons rfl (Sub.cons rfl (Sub.cons rfl (Sub.cons rfl (Sub.cons rfl (Sub.nil)))))) (fun _ h => h)
          · try simp only [decide_eq_true_eq, decide_eq_false_iff_not, Bool.not_eq_true', Bool.not_eq_false'] at w2
            refine c_false rfl ?_
            refine c_seq ?_
            refine c_region _ rfl ?_
            refine l_q rfl (q_fieldAddr rfl Try.underlying60 rfl Try.sizeOf3 rfl rfl) rfl rfl ?_
            refine l_q rfl (q_loadC rfl Try.isAgg3 rfl (fun _ h => h.at 0 rfl) rfl) rfl rfl ?_
            refine l_q rfl (q_leq rfl rfl rfl) rfl rfl ?_
            refine l_q rfl (q_assign rfl rfl) rfl rfl ?_
            refine l_nil ?_
            refine k_then ?_
            refine Pre.caseB 76 rfl (fun w3 => ?_) (fun w3 => ?_)
            · try simp only [decide_eq_true_eq, decide_eq_false_iff_not, Bool.not_eq_true', Bool.not_eq_false'] at w3
              refine c_true rfl ?_
              refine c_region _ rfl ?_
              refine l_q rfl (q_move rfl rfl) rfl rfl ?_
              refine l_q rfl (q_fieldAddr rfl Try.underlying60 rfl Try.sizeOf3 rfl rfl) rfl rfl ?_
              refine l_q rfl (q_loadC rfl Try.isAgg3 rfl (fun _ h => h.at 0 rfl) rfl) rfl rfl ?_
              refine l_e rfl ?_
              refine e_callH [_, _] (qclaim hqk (by omega) (x.t)) rfl rfl rfl Try.call22 rfl (fun _ _ => trivial) ?_
              rintro q51 ⟨hm52_, _, hk53⟩
              refine Pre.world (St _ _ (_ :: _ :: Q.H r36 q51)) (fun _ h => h) ?_
              have hm52 : q51.M = (q.M.claim x.t).2 := by rw [hm52_, (rfl : q.M = q.M)]
              refine l_nil ?_
              refine k_block ?_
              refine drop0 ?_
              exact k_meet (q51) ⟨hk53, by rw [hm52, claim_len, hq6], fun h => by omega⟩ (Sub.cons rfl (Sub.cons rfl (Sub.cons rfl (Sub.cons rfl (Sub.cons rfl (Sub.nil)))))) (fun _ h => h)
            · try simp only [decide_eq_true_eq, decide_eq_false_iff_not, Bool.not_eq_true', Bool.not_eq_false'] at w3
              refine c_false rfl ?_
              refine c_seq ?_
              refine c_region _ rfl ?_
              refine l_q rfl (q_fieldAddr rfl Try.underlying60 rfl Try.sizeOf3 rfl rfl) rfl rfl ?_
              refine l_q rfl (q_loadC rfl Try.isAgg3 rfl (fun _ h => h.at 0 rfl) rfl) rfl rfl ?_
              refine l_q rfl (q_eql rfl rfl rfl) rfl rfl ?_
              refine l_q rfl (q_assign rfl rfl) rfl rfl ?_
              refine l_nil ?_
              refine k_then ?_
              refine Pre.caseB 84 rfl (fun w4 => ?_) (fun w4 => ?_)
              · try simp only [decide_eq_true_eq, decide_eq_false_iff_not, Bool.not_eq_true', Bool.not_eq_false'] at w4
                refine c_true rfl ?_
                refine c_region _ rfl ?_
                refine l_q rfl (q_move rfl rfl) rfl rfl ?_
                refine l_q rfl (q_fieldAddr rfl Try.underlying60 rfl Try.sizeOf3 rfl rfl) rfl rfl ?_
                refine l_q rfl (q_loadC rfl Try.isAgg3 rfl (fun _ h => h.at 0 rfl) rfl) rfl rfl ?_
                refine l_q rfl (q_fieldAddr rfl Try.underlying60 rfl Try.sizeOf3 rfl rfl) rfl rfl ?_
                refine l_q rfl (q_loadC rfl Try.isAgg3 rfl (fun _ h => h.at 0 rfl) rfl) rfl rfl ?_
                refine l_q rfl (q_build (nvL.c) rfl rfl (fun w => by kernel_rfl)) rfl rfl ?_
                refine row0 121 En.enc none ?_
                refine pull2 ?_
                refine pull2 ?_
                refine Pre.world (St _ _ (_ :: _ :: nrow nvL :: _)) (fun _ h => h) ?_
                refine l_e rfl ?_
                refine e_callH [_, _] (qname hqk nvL (by show 0 ≤ 1000; decide) x.t x.id) rfl rfl rfl Try.call25 rfl (fun _ _ => trivial) ?_
                rintro q54 ⟨hm55_, _, hk56⟩
                refine Pre.world (St _ _ (_ :: _ :: _ :: Q.H r36 q54)) (fun _ h => h) ?_
                have hm55 : q54.M = (q.M.name x.t x.id nvL.leaf nvL.l).2 := by rw [hm55_, (rfl : q.M = q.M)]
                refine l_nil ?_
                refine k_block ?_
                refine drop0 ?_
                refine pull1 ?_
                refine drop0 ?_
                exact k_meet (q54) ⟨hk56.mono (Nat.le_succ _) (by omega), by rw [hm55, name_len, hq6], fun h => by omega⟩ (Sub.cons rfl (Sub.cons rfl (Sub.cons rfl (Sub.cons rfl (Sub.cons rfl (Sub.nil)))))) (fun _ h => h)
              · try simp only [decide_eq_true_eq, decide_eq_false_iff_not, Bool.not_eq_true', Bool.not_eq_false'] at w4
                refine c_false rfl ?_
                refine c_seq ?_
                refine c_region _ rfl ?_
                refine l_q rfl (q_fieldAddr rfl Try.underlying60 rfl Try.sizeOf3 rfl rfl) rfl rfl ?_
                refine l_q rfl (q_loadC rfl Try.isAgg3 rfl (fun _ h => h.at 0 rfl) rfl) rfl rfl ?_
                refine l_q rfl (q_leq rfl rfl rfl) rfl rfl ?_
                refine l_q rfl (q_assign rfl rfl) rfl rfl ?_
                refine l_nil ?_
                refine k_then ?_
                refine Pre.caseB 95 rfl (fun w5 => ?_) (fun w5 => ?_)
                · try simp only [decide_eq_true_eq, decide_eq_false_iff_not, Bool.not_eq_true', Bool.not_eq_false'] at w5
                  refine c_true rfl ?_
                  refine c_region _ rfl ?_
                  refine l_q rfl (q_move rfl rfl) rfl rfl ?_
                  refine l_q rfl (q_fieldAddr rfl Try.underlying60 rfl Try.sizeOf3 rfl rfl) rfl rfl ?_
                  refine l_q rfl (q_loadC rfl Try.isAgg3 rfl (fun _ h => h.at 0 rfl) rfl) rfl rfl ?_
                  refine l_e rfl ?_
                  refine e_callH [_, _] (qunpin hqk (x.id)) rfl rfl rfl Try.call19 rfl (fun _ _ => trivial) ?_
                  rintro q57 ⟨hm58_, _, hk59⟩
                  refine Pre.world (St _ _ (_ :: _ :: Q.H r36 q57)) (fun _ h => h) ?_
                  have hm58 : q57.M = (q.M.unpin x.id).2 := by rw [hm58_, (rfl : q.M = q.M)]
                  refine l_nil ?_
                  refine k_block ?_
                  refine drop0 ?_
                  exact k_meet (q57) ⟨hk59.mono (Nat.le_succ _) (by omega), by rw [hm58, unpin_len, hq6], fun h => by omega⟩ (Sub.cons rfl (Sub.cons rfl (Sub.cons rfl (Sub.cons rfl (Sub.cons rfl (Sub.nil)))))) (fun _ h => h)
                · try simp only [decide_eq_true_eq, decide_eq_false_iff_not, Bool.not_eq_true', Bool.not_eq_false'] at w5
                  refine c_false rfl ?_
                  refine c_seq ?_
                  refine c_region _ rfl ?_
                  refine l_q rfl (q_fieldAddr rfl Try.underlying60 rfl Try.sizeOf3 rfl rfl) rfl rfl ?_
                  refine l_q rfl (q_loadC rfl Try.isAgg3 rfl (fun _ h => h.at 0 rfl) rfl) rfl rfl ?_
                  refine l_q rfl (q_eql rfl rfl rfl) rfl rfl ?_
                  refine l_q rfl (q_assign rfl rfl) rfl rfl ?_
                  refine l_nil ?_
                  refine k_then ?_
                  refine Pre.caseB 103 rfl (fun w6 => ?_) (fun w6 => ?_)
                  · try simp only [decide_eq_true_eq, decide_eq_false_iff_not, Bool.not_eq_true', Bool.not_eq_false'] at w6
                    refine c_true rfl ?_
                    refine c_region _ rfl ?_
                    refine l_q rfl (q_move rfl rfl) rfl rfl ?_
                    refine l_q rfl (q_fieldAddr rfl Try.underlying60 rfl Try.sizeOf3 rfl rfl) rfl rfl ?_
                    refine l_q rfl (q_loadC rfl Try.isAgg3 rfl (fun _ h => h.at 0 rfl) rfl) rfl rfl ?_
                    refine l_q rfl (q_build (nvL.c) rfl rfl (fun w => by kernel_rfl)) rfl rfl ?_
                    refine row0 121 En.enc none ?_
                    refine pull2 ?_
                    refine pull2 ?_
                    refine Pre.world (St _ _ (_ :: _ :: nrow nvL :: _)) (fun _ h => h) ?_
                    refine l_e rfl ?_
                    refine e_callH [_, _] (qset hqk nvL (by show 0 ≤ 1000; decide) x.id) rfl rfl rfl Try.call28 rfl (fun _ _ => trivial) ?_
                    rintro q60 ⟨hm61_, _, hk62⟩
                    refine Pre.world (St _ _ (_ :: _ :: _ :: Q.H r36 q60)) (fun _ h => h) ?_
                    have hm61 : q60.M = (q.M.setN x.id nvL.leaf nvL.l).2 := by rw [hm61_, (rfl : q.M = q.M)]
                    refine l_nil ?_
                    refine k_block ?_
                    refine drop0 ?_
                    refine pull1 ?_
                    refine drop0 ?_
                    exact k_meet (q60) ⟨hk62.mono (Nat.le_succ _) (by omega), by rw [hm61, set_len, hq6], fun h => by omega⟩ (Sub.cons rfl (Sub.cons rfl (Sub.cons rfl (Sub.cons rfl (Sub.cons rfl (Sub.nil)))))) (fun _ h => h)
                  · try simp only [decide_eq_true_eq, decide_eq_false_iff_not, Bool.not_eq_true', Bool.not_eq_false'] at w6
                    refine c_false rfl ?_
                    refine c_region _ rfl ?_
                    refine l_q rfl (q_move rfl rfl) rfl rfl ?_
                    refine l_e rfl ?_
                    refine e_callH [_, _] (qevict hqk) rfl rfl rfl Try.call20 rfl (fun _ _ => trivial) ?_
                    rintro ⟨q63, en64⟩ ⟨hm65_, hg70, hk66, hi68, hx67⟩
                    refine Pre.world (St _ _ (_ :: _ :: Q.H r36 q63)) (fun _ h => h) ?_
                    dsimp only at hm65_ hk66 hi68 hx67 hg70
                    rw [← hg70] at hi68
                    have hm65 : q63.M = q.M.evict.2 := by rw [hm65_, (rfl : q.M = q.M)]
                    have he69 : q.M.evict.1 = q.M.evict.1 := by rw [(rfl : q.M = q.M)]; try rfl
                    rw [he69] at hx67
                    refine Pre.setV (t := 56) (c := evV q.M.evict.1 en64) rfl (by rw [he69]) ?_
                    refine l_nil ?_
                    refine k_block ?_
                    refine drop0 ?_
                    exact k_meet (q63) ⟨hk66.mono (Nat.le_succ _) (by omega), by rw [hm65, evict_len hqk.ok, hq6], fun _ a y hy hp => by rw [hm65]; exact evict_kept hqk.ok hy hp⟩ (Sub.cons rfl (Sub.cons rfl (Sub.cons rfl (Sub.cons rfl (Sub.cons rfl (Sub.nil)))))) (fun _ h => h)
      · intro q2 hp
        refine c_seq ?_
        obtain ⟨hqk2, hq62, hkp⟩ := hp
        refine c_region _ rfl ?_
        refine l_q rfl (q_move rfl rfl) rfl rfl ?_
        refine l_e rfl ?_
        refine e_callH [_] (qframes0 hqk2) rfl rfl rfl Try.call16 rfl (fun _ _ => trivial) ?_
        rintro ⟨v71, fl72⟩ hf73
        refine Pre.world (St _ _ (_ :: rowE v71 44 FC.encA fl72 :: Q.H r36 q2)) (fun _ h => h) ?_
        dsimp only at hf73
        rw [(rfl : q2.M = q2.M)] at hf73
        refine l_q rfl (q_assign rfl rfl) rfl rfl ?_
        refine l_nil ?_
        refine k_then ?_
        refine c_seq ?_
        refine c_seq ?_
        refine c_region _ rfl ?_
        refine l_q rfl (q_move rfl rfl) rfl rfl ?_
        refine l_q rfl (q_lenV rfl Try.underlying39 rfl (fun _ h => h.rd 1 rfl)) rfl rfl ?_
        refine l_q rfl (q_neq rfl rfl rfl) rfl rfl ?_
        refine l_nil ?_
        refine k_then ?_
        have hf62 : fl72.length = 6 := frs_len hf73 hq62
        refine Pre.setB (t := 116) (c := false) rfl (by simp [hf62]) ?_
        refine c_false rfl ?_
        refine c_skip ?_
        refine k_then ?_
        refine c_seq ?_
        refine c_seq ?_
        refine c_region _ rfl ?_
        refine l_q rfl (q_assign rfl rfl) rfl rfl ?_
        refine l_nil ?_
        refine k_then ?_
        refine c_block ?_
        refine pull1 ?_
        refine c_loop1 (fun (a : Nat) => [(0, va), (3, .pointer (some ⟨r36, 0, none⟩)), (5, v), (6, .int .i64 (i : Int)), (8, .bool (decide (12 < x.what))), (9, v71), (10, .int .i64 (a : Int))]) (fun (a : Nat) => St w [] (rowE v71 44 FC.encA fl72 :: rowE v 44 FC.encA fl :: Q.H r36 q2)) (fun (a : Nat) => a ≤ 6) (fun (a : Nat) => 6 - a) (0) (Nat.zero_le _) (Sub.cons rfl (Sub.cons rfl (Sub.cons rfl (Sub.cons rfl (Sub.cons rfl (Sub.cons rfl (Sub.cons rfl (Sub.nil)))))))) (fun _ h => h) ?_
        intro a ha6
        refine c_seq ?_
        refine c_seq ?_
        refine c_region _ rfl ?_
        refine l_q rfl (q_move rfl rfl) rfl rfl ?_
        refine l_q rfl (q_lss rfl rfl rfl) rfl rfl ?_
        refine l_nil ?_
        refine k_then ?_
        refine Pre.caseB 118 rfl (fun ha => ?_) (fun ha => ?_)
        · try simp only [decide_eq_true_eq, decide_eq_false_iff_not, Bool.not_eq_true', Bool.not_eq_false'] at ha
          obtain ⟨f, hfa⟩ : ∃ f, fl[a]? = some f := ⟨_, List.getElem?_eq_getElem (by omega)⟩
          obtain ⟨g, hga⟩ : ∃ g, fl72[a]? = some g := ⟨_, List.getElem?_eq_getElem (by omega)⟩
          have hya := frs_at hfl hfa
          have hza := frs_at hf73 hga
          refine c_true rfl ?_
          refine c_skip ?_
          refine k_then ?_
          refine c_seq ?_
          refine c_block ?_
          refine c_seq ?_
          refine c_seq ?_
          refine c_draw [(0, some true), (1, some true), (2, some true), (3, some true), (4, some true), (5, some true), (6, some true), (7, some true), (8, some true), (9, some true), (10, some true), (11, some true), (12, some true), (13, some true), (14, some true), (15, some true), (16, some true), (17, some true), (18, some true), (19, some true), (20, some true), (21, some true), (22, some true), (23, some true), (24, some true), (25, some true), (26, some true), (27, some true), (28, some true), (29, some true), (30, some true), (31, some true), (32, some true), (33, some true), (34, some true), (35, some true), (36, some true), (37, some true), (38, some true), (39, some true), (40, some true), (41, some true), (42, some true), (43, some true), (44, some true), (45, some true), (46, some true), (47, some true)] [] [(_, some true), (_, some true), (_, some true), (_, some true), (_, some true), (_, some true), (_, some true), (_, some true), (_, some true), (_, some true), (_, some true), (_, some true), (_, some true), (_, some true), (_, some true), (_, some true), (_, some true), (_, some true), (_, some true), (_, some true), (_, some true), (_, some true), (_, some true), (_, some true), (_, some true), (_, some true), (_, some true), (_, some true), (_, some true), (_, some true), (_, some true), (_, some true), (_, some true), (_, some true), (_, some true), (_, some true), (_, some true), (_, some true), (_, some true), (_, some true), (_, some true), (_, some true), (_, some true), (_, some true), (_, some true), (_, some true), (_, some true), (_, some true)] (fun w2 => RdV w2 v71 FC.encA fl72 ∧ RdV w2 v FC.encA fl) (blind_then (blind_then (blind_block (blind_then (blind_then (blind_block (blind_then (blind_block (blind_then (blind_then (blind_block (blind_then blind_body)))))))))))) rfl (by kernel_rfl) (by kernel_rfl) rfl rfl rfl (by kernel_rfl) St.drawn (fun _ h => ⟨h.rd 0 rfl, h.rd 1 rfl⟩) ?_
          refine d_q rfl (q_move rfl rfl) rfl rfl ?_
          refine d_q rfl (q_move rfl rfl) rfl rfl ?_
          refine Pre.caseB 122 rfl (fun he => ?_) (fun he => ?_)
          · try simp only [decide_eq_true_eq, decide_eq_false_iff_not, Bool.not_eq_true', Bool.not_eq_false'] at he
            refine d_q rfl (q_move rfl rfl) rfl rfl ?_
            refine d_q rfl (q_move rfl rfl) rfl rfl ?_
            refine d_q rfl (q_indexV a rfl Try.underlying39 Try.sizeOf44 rfl (fun _ h => h.2) rfl rfl (by omega)) rfl rfl ?_
            refine d_q rfl (q_fieldAddr rfl Try.underlying44 rfl Try.sizeOf3 rfl rfl) rfl rfl ?_
            refine d_q rfl (q_loadV a 2 rfl Try.isAgg3 rfl rfl (fun _ h => h.2) hfa rfl) rfl rfl ?_
            refine d_q rfl (q_gtr rfl rfl rfl) rfl rfl ?_
            refine d_q rfl (q_pick_t rfl rfl rfl) rfl rfl ?_
            refine d_q rfl (q_move rfl rfl) rfl rfl ?_
            refine Pre.caseB 130 rfl (fun hpn => ?_) (fun hpn => ?_)
            · try simp only [decide_eq_true_eq, decide_eq_false_iff_not, Bool.not_eq_true', Bool.not_eq_false'] at hpn
              obtain ⟨zz, hz1, hz2, hz3, hz4⟩ := hkp he a (vw f) hya hpn
              rw [hza] at hz1
              cases hz1
              have hs1 : g.st = f.st := hz2
              have hs2 : g.blk = f.blk := hz3
              have hs3 : g.pins = f.pins := hz4
              refine d_q rfl (q_move rfl rfl) rfl rfl ?_
              refine d_q rfl (q_move rfl rfl) rfl rfl ?_
              refine d_q rfl (q_indexV a rfl Try.underlying39 Try.sizeOf44 rfl (fun _ h => h.1) rfl rfl (by omega)) rfl rfl ?_
              refine d_q rfl (q_fieldAddr rfl Try.underlying44 rfl Try.sizeOf3 rfl rfl) rfl rfl ?_
              refine d_q rfl (q_loadV a 0 rfl Try.isAgg3 rfl rfl (fun _ h => h.1) hga rfl) rfl rfl ?_
              refine d_q rfl (q_move rfl rfl) rfl rfl ?_
              refine d_q rfl (q_move rfl rfl) rfl rfl ?_
              refine d_q rfl (q_indexV a rfl Try.underlying39 Try.sizeOf44 rfl (fun _ h => h.2) rfl rfl (by omega)) rfl rfl ?_
              refine d_q rfl (q_fieldAddr rfl Try.underlying44 rfl Try.sizeOf3 rfl rfl) rfl rfl ?_
              refine d_q rfl (q_loadV a 0 rfl Try.isAgg3 rfl rfl (fun _ h => h.2) hfa rfl) rfl rfl ?_
              refine d_q rfl (q_neq rfl rfl rfl) rfl rfl ?_
              refine d_q rfl (q_move rfl rfl) rfl rfl ?_
              refine Pre.setB (t := 142) (c := false) rfl (by first | rfl | (simp [hs1]; done) | (simp [hs2]; done) | (simp [hs3]; done)) ?_
              refine d_q rfl (q_move rfl rfl) rfl rfl ?_
              refine d_q rfl (q_move rfl rfl) rfl rfl ?_
              refine d_q rfl (q_indexV a rfl Try.underlying39 Try.sizeOf44 rfl (fun _ h => h.1) rfl rfl (by omega)) rfl rfl ?_
              refine d_q rfl (q_fieldAddr rfl Try.underlying44 rfl Try.sizeOf3 rfl rfl) rfl rfl ?_
              refine d_q rfl (q_loadV a 1 rfl Try.isAgg3 rfl rfl (fun _ h => h.1) hga rfl) rfl rfl ?_
              refine d_q rfl (q_move rfl rfl) rfl rfl ?_
              refine d_q rfl (q_move rfl rfl) rfl rfl ?_
              refine d_q rfl (q_indexV a rfl Try.underlying39 Try.sizeOf44 rfl (fun _ h => h.2) rfl rfl (by omega)) rfl rfl ?_
              refine d_q rfl (q_fieldAddr rfl Try.underlying44 rfl Try.sizeOf3 rfl rfl) rfl rfl ?_
              refine d_q rfl (q_loadV a 1 rfl Try.isAgg3 rfl rfl (fun _ h => h.2) hfa rfl) rfl rfl ?_
              refine d_q rfl (q_neq rfl rfl rfl) rfl rfl ?_
              refine d_q rfl (q_pick_f rfl rfl rfl) rfl rfl ?_
              refine d_q rfl (q_move rfl rfl) rfl rfl ?_
              refine Pre.setB (t := 155) (c := false) rfl (by first | rfl | (simp [hs1]; done) | (simp [hs2]; done) | (simp [hs3]; done)) ?_
              refine d_q rfl (q_move rfl rfl) rfl rfl ?_
              refine d_q rfl (q_move rfl rfl) rfl rfl ?_
              refine d_q rfl (q_indexV a rfl Try.underlying39 Try.sizeOf44 rfl (fun _ h => h.1) rfl rfl (by omega)) rfl rfl ?_
              refine d_q rfl (q_fieldAddr rfl Try.underlying44 rfl Try.sizeOf3 rfl rfl) rfl rfl ?_
              refine d_q rfl (q_loadV a 2 rfl Try.isAgg3 rfl rfl (fun _ h => h.1) hga rfl) rfl rfl ?_
              refine d_q rfl (q_move rfl rfl) rfl rfl ?_
              refine d_q rfl (q_move rfl rfl) rfl rfl ?_
              refine d_q rfl (q_indexV a rfl Try.underlying39 Try.sizeOf44 rfl (fun _ h => h.2) rfl rfl (by omega)) rfl rfl ?_
              refine d_q rfl (q_fieldAddr rfl Try.underlying44 rfl Try.sizeOf3 rfl rfl) rfl rfl ?_
              refine d_q rfl (q_loadV a 2 rfl Try.isAgg3 rfl rfl (fun _ h => h.2) hfa rfl) rfl rfl ?_
              refine d_q rfl (q_neq rfl rfl rfl) rfl rfl ?_
              refine d_q rfl (q_pick_f rfl rfl rfl) rfl rfl ?_
              refine d_q rfl (q_pick_t rfl rfl rfl) rfl rfl ?_
              refine d_nil ?_
              refine k_then ?_
              refine Pre.setB (t := 168) (c := false) rfl (by first | rfl | (simp [hs1]; done) | (simp [hs2]; done) | (simp [hs3]; done)) ?_
              refine c_false rfl ?_
              refine c_skip ?_
              refine k_then ?_
              refine c_seq ?_
              refine c_region _ rfl ?_
              refine l_q rfl (q_assign rfl rfl) rfl rfl ?_
              refine l_nil ?_
              refine k_then ?_
              refine c_block ?_
              refine c_loop1 (fun (b : Nat) => [(0, va), (3, .pointer (some ⟨r36, 0, none⟩)), (5, v), (6, .int .i64 (i : Int)), (8, .bool (decide (12 < x.what))), (9, v71), (10, .int .i64 (a : Int)), (11, .int .i64 (b : Int))]) (fun (b : Nat) => St w [] (rowE v71 44 FC.encA fl72 :: rowE v 44 FC.encA fl :: Q.H r36 q2)) (fun (b : Nat) => b ≤ a) (fun (b : Nat) => a - b) (0) (Nat.zero_le _) (Sub.cons rfl (Sub.cons rfl (Sub.cons rfl (Sub.cons rfl (Sub.cons rfl (Sub.cons rfl (Sub.cons rfl (Sub.cons rfl (Sub.nil))))))))) (fun _ h => h) ?_
              intro b hb6
              refine c_seq ?_
              refine c_seq ?_
              refine c_region _ rfl ?_
              refine l_q rfl (q_move rfl rfl) rfl rfl ?_
              refine l_q rfl (q_move rfl rfl) rfl rfl ?_
              refine l_q rfl (q_lss rfl rfl rfl) rfl rfl ?_
              refine l_nil ?_
              refine k_then ?_
              refine Pre.caseB 171 rfl (fun hb => ?_) (fun hb => ?_)
              · try simp only [decide_eq_true_eq, decide_eq_false_iff_not, Bool.not_eq_true', Bool.not_eq_false'] at hb
                obtain ⟨k, hgb⟩ : ∃ k, fl72[b]? = some k := ⟨_, List.getElem?_eq_getElem (by omega)⟩
                have hzb := frs_at hf73 hgb
                refine c_true rfl ?_
                refine c_skip ?_
                refine k_then ?_
                refine c_seq ?_
                refine c_block ?_
                refine c_seq ?_
                refine c_draw [(0, some true), (1, some true), (2, some true), (3, some true), (4, some true), (5, some true), (6, some true), (7, some true), (8, some true), (9, some true), (10, some true), (11, some true), (12, some true), (13, some true), (14, some true), (15, some true), (16, some true), (17, some true), (18, some true)] [] [(_, some true), (_, some true), (_, some true), (_, some true), (_, some true), (_, some true), (_, some true), (_, some true), (_, some true), (_, some true), (_, some true), (_, some true), (_, some true), (_, some true), (_, some true), (_, some true), (_, some true), (_, some true), (_, some true)] (fun w2 => RdV w2 v71 FC.encA fl72 ∧ RdV w2 v FC.encA fl) (blind_then (blind_block (blind_then (blind_then (blind_block (blind_block (blind_then (blind_then (blind_block (blind_then (blind_block (blind_then (blind_then (blind_block (blind_then blind_body))))))))))))))) rfl (by kernel_rfl) (by kernel_rfl) rfl rfl rfl (by kernel_rfl) St.drawn (fun _ h => ⟨h.rd 0 rfl, h.rd 1 rfl⟩) ?_
                refine d_q rfl (q_move rfl rfl) rfl rfl ?_
                refine d_q rfl (q_move rfl rfl) rfl rfl ?_
                refine d_q rfl (q_indexV a rfl Try.underlying39 Try.sizeOf44 rfl (fun _ h => h.1) rfl rfl (by omega)) rfl rfl ?_
                refine d_q rfl (q_fieldAddr rfl Try.underlying44 rfl Try.sizeOf3 rfl rfl) rfl rfl ?_
                refine d_q rfl (q_loadV a 1 rfl Try.isAgg3 rfl rfl (fun _ h => h.1) hga rfl) rfl rfl ?_
                refine d_q rfl (q_geq rfl rfl rfl) rfl rfl ?_
                refine d_q rfl (q_move rfl rfl) rfl rfl ?_
                refine Pre.caseB 180 rfl (fun h0b => ?_) (fun h0b => ?_)
                · try simp only [decide_eq_true_eq, decide_eq_false_iff_not, Bool.not_eq_true', Bool.not_eq_false'] at h0b
                  have hne : ¬ g.blk = k.blk := one_blk hqk2.ok hza hzb (by omega) h0b
                  refine d_q rfl (q_move rfl rfl) rfl rfl ?_
                  refine d_q rfl (q_move rfl rfl) rfl rfl ?_
                  refine d_q rfl (q_indexV a rfl Try.underlying39 Try.sizeOf44 rfl (fun _ h => h.1) rfl rfl (by omega)) rfl rfl ?_
                  refine d_q rfl (q_fieldAddr rfl Try.underlying44 rfl Try.sizeOf3 rfl rfl) rfl rfl ?_
                  refine d_q rfl (q_loadV a 1 rfl Try.isAgg3 rfl rfl (fun _ h => h.1) hga rfl) rfl rfl ?_
                  refine d_q rfl (q_move rfl rfl) rfl rfl ?_
                  refine d_q rfl (q_move rfl rfl) rfl rfl ?_
                  refine d_q rfl (q_indexV b rfl Try.underlying39 Try.sizeOf44 rfl (fun _ h => h.1) rfl rfl (by omega)) rfl rfl ?_
                  refine d_q rfl (q_fieldAddr rfl Try.underlying44 rfl Try.sizeOf3 rfl rfl) rfl rfl ?_
                  refine d_q rfl (q_loadV b 1 rfl Try.isAgg3 rfl rfl (fun _ h => h.1) hgb rfl) rfl rfl ?_
                  refine d_q rfl (q_eql rfl rfl rfl) rfl rfl ?_
                  refine d_q rfl (q_pick_t rfl rfl rfl) rfl rfl ?_
                  refine d_nil ?_
                  refine k_then ?_
                  refine Pre.setB (t := 192) (c := false) rfl (decide_eq_false hne) ?_
                  refine c_false rfl ?_
                  refine c_skip ?_
                  refine k_block ?_
                  refine k_then ?_
                  refine c_region _ rfl ?_
                  refine l_q rfl (q_move rfl rfl) rfl rfl ?_
                  refine l_q rfl (q_inc rfl rfl rfl (by omega)) rfl rfl ?_
                  refine l_q rfl (q_assign rfl rfl) rfl rfl ?_
                  refine l_nil ?_
                  exact k_round (b + 1) (by omega) (by omega) (Sub.cons rfl (Sub.cons rfl (Sub.cons rfl (Sub.cons rfl (Sub.cons rfl (Sub.cons rfl (Sub.cons rfl (Sub.cons rfl (Sub.nil))))))))) (fun _ h => h)
                · try simp only [decide_eq_true_eq, decide_eq_false_iff_not, Bool.not_eq_true', Bool.not_eq_false'] at h0b
                  refine d_not rfl rfl rfl ?_
                  refine d_not rfl rfl rfl ?_
                  refine d_not rfl rfl rfl ?_
                  refine d_not rfl rfl rfl ?_
                  refine d_not rfl rfl rfl ?_
                  refine d_not rfl rfl rfl ?_
                  refine d_not rfl rfl rfl ?_
                  refine d_not rfl rfl rfl ?_
                  refine d_not rfl rfl rfl ?_
                  refine d_not rfl rfl rfl ?_
                  refine d_not rfl rfl rfl ?_
                  refine d_q rfl (q_pick_f rfl rfl rfl) rfl rfl ?_
                  refine d_nil ?_
                  refine k_then ?_
                  refine c_false rfl ?_
                  refine c_skip ?_
                  refine k_block ?_
                  refine k_then ?_
                  refine c_region _ rfl ?_
                  refine l_q rfl (q_move rfl rfl) rfl rfl ?_
                  refine l_q rfl (q_inc rfl rfl rfl (by omega)) rfl rfl ?_
                  refine l_q rfl (q_assign rfl rfl) rfl rfl ?_
                  refine l_nil ?_
                  exact k_round (b + 1) (by omega) (by omega) (Sub.cons rfl (Sub.cons rfl (Sub.cons rfl (Sub.cons rfl (Sub.cons rfl (Sub.cons rfl (Sub.cons rfl (Sub.cons rfl (Sub.nil))))))))) (fun _ h => h)
              · try simp only [decide_eq_true_eq, decide_eq_false_iff_not, Bool.not_eq_true', Bool.not_eq_false'] at hb
                refine c_false rfl ?_
                refine c_exit ?_
                refine k_then_exit ?_
                refine k_then_exit ?_
                refine k_block_exit ?_
                refine k_block ?_
                refine k_then ?_
                refine c_region _ rfl ?_
                refine l_q rfl (q_move rfl rfl) rfl rfl ?_
                refine l_q rfl (q_inc rfl rfl rfl (by omega)) rfl rfl ?_
                refine l_q rfl (q_assign rfl rfl) rfl rfl ?_
                refine l_nil ?_
                exact k_round (a + 1) (by omega) (by omega) (Sub.cons rfl (Sub.cons rfl (Sub.cons rfl (Sub.cons rfl (Sub.cons rfl (Sub.cons rfl (Sub.cons rfl (Sub.nil)))))))) (fun _ h => h)
            · try simp only [decide_eq_true_eq, decide_eq_false_iff_not, Bool.not_eq_true', Bool.not_eq_false'] at hpn
              refine d_not rfl rfl rfl ?_
              refine d_not rfl rfl rfl ?_
              refine d_not rfl rfl rfl ?_
              refine d_not rfl rfl rfl ?_
              refine d_not rfl rfl rfl ?_
              refine d_not rfl rfl rfl ?_
              refine d_not rfl rfl rfl ?_
              refine d_not rfl rfl rfl ?_
              refine d_not rfl rfl rfl ?_
              refine d_not rfl rfl rfl ?_
              refine d_not rfl rfl rfl ?_
              refine d_not rfl rfl rfl ?_
              refine d_not rfl rfl rfl ?_
              refine d_not rfl rfl rfl ?_
              refine d_not rfl rfl rfl ?_
              refine d_not rfl rfl rfl ?_
              refine d_not rfl rfl rfl ?_
              refine d_not rfl rfl rfl ?_
              refine d_not rfl rfl rfl ?_
              refine d_not rfl rfl rfl ?_
              refine d_not rfl rfl rfl ?_
              refine d_not rfl rfl rfl ?_
              refine d_not rfl rfl rfl ?_
              refine d_not rfl rfl rfl ?_
              refine d_not rfl rfl rfl ?_
              refine d_not rfl rfl rfl ?_
              refine d_not rfl rfl rfl ?_
              refine d_not rfl rfl rfl ?_
              refine d_not rfl rfl rfl ?_
              refine d_not rfl rfl rfl ?_
              refine d_not rfl rfl rfl ?_
              refine d_not rfl rfl rfl ?_
              refine d_not rfl rfl rfl ?_
              refine d_not rfl rfl rfl ?_
              refine d_not rfl rfl rfl ?_
              refine d_not rfl rfl rfl ?_
              refine d_not rfl rfl rfl ?_
              refine d_q rfl (q_pick_f rfl rfl rfl) rfl rfl ?_
              refine d_nil ?_
              refine k_then ?_
              refine c_false rfl ?_
              refine c_skip ?_
              refine k_then ?_
              refine c_seq ?_
              refine c_region _ rfl ?_
              refine l_q rfl (q_assign rfl rfl) rfl rfl ?_
              refine l_nil ?_
              refine k_then ?_
              refine c_block ?_
              refine c_loop1 (fun (b : Nat) => [(0, va), (3, .pointer (some ⟨r36, 0, none⟩)), (5, v), (6, .int .i64 (i : Int)), (8, .bool (decide (12 < x.what))), (9, v71), (10, .int .i64 (a : Int)), (11, .int .i64 (b : Int))]) (fun (b : Nat) => St w [] (rowE v71 44 FC.encA fl72 :: rowE v 44 FC.encA fl :: Q.H r36 q2)) (fun (b : Nat) => b ≤ a) (fun (b : Nat) => a - b) (0) (Nat.zero_le _) (Sub.cons rfl (Sub.cons rfl (Sub.cons rfl (Sub.cons rfl (Sub.cons rfl (Sub.cons rfl (Sub.cons rfl (Sub.cons rfl (Sub.nil))))))))) (fun _ h => h) ?_
              intro b hb6
              refine c_seq ?_
              refine c_seq ?_
              refine c_region _ rfl ?_
              refine l_q rfl (q_move rfl rfl) rfl rfl ?_
              refine l_q rfl (q_move rfl rfl) rfl rfl ?_
              refine l_q rfl (q_lss rfl rfl rfl) rfl rfl ?_
              refine l_nil ?_
              refine k_then ?_
              refine Pre.caseB 171 rfl (fun hb => ?_) (fun hb => ?_)
              · try simp only [decide_eq_true_eq, decide_eq_false_iff_not, Bool.not_eq_true', Bool.not_eq_false'] at hb
                obtain ⟨k, hgb⟩ : ∃ k, fl72[b]? = some k := ⟨_, List.getElem?_eq_getElem (by omega)⟩
                have hzb := frs_at hf73 hgb
                refine c_true rfl ?_
                refine c_skip ?_
                refine k_then ?_
                refine c_seq ?_
                refine c_block ?_
                refine c_seq ?_
                refine c_draw [(0, some true), (1, some true), (2, some true), (3, some true), (4, some true), (5, some true), (6, some true), (7, some true), (8, some true), (9, some true), (10, some true), (11, some true), (12, some true), (13, some true), (14, some true), (15, some true), (16, some true), (17, some true), (18, some true)] [] [(_, some true), (_, some true), (_, some true), (_, some true), (_, some true), (_, some true), (_, some true), (_, some true), (_, some true), (_, some true), (_, some true), (_, some true), (_, some true), (_, some true), (_, some true), (_, some true), (_, some true), (_, some true), (_, some true)] (fun w2 => RdV w2 v71 FC.encA fl72 ∧ RdV w2 v FC.encA fl) (blind_then (blind_block (blind_then (blind_then (blind_block (blind_block (blind_then (blind_then (blind_block (blind_then (blind_block (blind_then (blind_then (blind_block (blind_then blind_body))))))))))))))) rfl (by kernel_rfl) (by kernel_rfl) rfl rfl rfl (by kernel_rfl) St.drawn (fun _ h => ⟨h.rd 0 rfl, h.rd 1 rfl⟩) ?_
                refine d_q rfl (q_move rfl rfl) rfl rfl ?_
                refine d_q rfl (q_move rfl rfl) rfl rfl ?_
                refine d_q rfl (q_indexV a rfl Try.underlying39 Try.sizeOf44 rfl (fun _ h => h.1) rfl rfl (by omega)) rfl rfl ?_
                refine d_q rfl (q_fieldAddr rfl Try.underlying44 rfl Try.sizeOf3 rfl rfl) rfl rfl ?_
                refine d_q rfl (q_loadV a 1 rfl Try.isAgg3 rfl rfl (fun _ h => h.1) hga rfl) rfl rfl ?_
                refine d_q rfl (q_geq rfl rfl rfl) rfl rfl ?_
                refine d_q rfl (q_move rfl rfl) rfl rfl ?_
                refine Pre.caseB 180 rfl (fun h0b => ?_) (fun h0b => ?_)
                · try simp only [decide_eq_true_eq, decide_eq_false_iff_not, Bool.not_eq_true', Bool.not_eq_false'] at h0b
                  have hne : ¬ g.blk = k.blk := one_blk hqk2.ok hza hzb (by omega) h0b
                  refine d_q rfl (q_move rfl rfl) rfl rfl ?_
                  refine d_q rfl (q_move rfl rfl) rfl rfl ?_
                  refine d_q rfl (q_indexV a rfl Try.underlying39 Try.sizeOf44 rfl (fun _ h => h.1) rfl rfl (by omega)) rfl rfl ?_
                  refine d_q rfl (q_fieldAddr rfl Try.underlying44 rfl Try.sizeOf3 rfl rfl) rfl rfl ?_
                  refine d_q rfl (q_loadV a 1 rfl Try.isAgg3 rfl rfl (fun _ h => h.1) hga rfl) rfl rfl ?_
                  refine d_q rfl (q_move rfl rfl) rfl rfl ?_
                  refine d_q rfl (q_move rfl rfl) rfl rfl ?_
                  refine d_q rfl (q_indexV b rfl Try.underlying39 Try.sizeOf44 rfl (fun _ h => h.1) rfl rfl (by omega)) rfl rfl ?_
                  refine d_q rfl (q_fieldAddr rfl Try.underlying44 rfl Try.sizeOf3 rfl rfl) rfl rfl ?_
                  refine d_q rfl (q_loadV b 1 rfl Try.isAgg3 rfl rfl (fun _ h => h.1) hgb rfl) rfl rfl ?_
                  refine d_q rfl (q_eql rfl rfl rfl) rfl rfl ?_
                  refine d_q rfl (q_pick_t rfl rfl rfl) rfl rfl ?_
                  refine d_nil ?_
                  refine k_then ?_
                  refine Pre.setB (t := 192) (c := false) rfl (decide_eq_false hne) ?_
                  refine c_false rfl ?_
                  refine c_skip ?_
                  refine k_block ?_
                  refine k_then ?_
                  refine c_region _ rfl ?_
                  refine l_q rfl (q_move rfl rfl) rfl rfl ?_
                  refine l_q rfl (q_inc rfl rfl rfl (by omega)) rfl rfl ?_
                  refine l_q rfl (q_assign rfl rfl) rfl rfl ?_
                  refine l_nil ?_
                  exact k_round (b + 1) (by omega) (by omega) (Sub.cons rfl (Sub.cons rfl (Sub.cons rfl (Sub.cons rfl (Sub.cons rfl (Sub.cons rfl (Sub.cons rfl (Sub.cons rfl (Sub.nil))))))))) (fun _ h => h)
                · try simp only [decide_eq_true_eq, decide_eq_false_iff_not, Bool.not_eq_true', Bool.not_eq_false'] at h0b
                  refine d_not rfl rfl rfl ?_
                  refine d_not rfl rfl rfl ?_
                  refine d_not rfl rfl rfl ?_
                  refine d_not rfl rfl rfl ?_
                  refine d_not rfl rfl rfl ?_
                  refine d_not rfl rfl rfl ?_
                  refine d_not rfl rfl rfl ?_
                  refine d_not rfl rfl rfl ?_
                  refine d_not rfl rfl rfl ?_
                  refine d_not rfl rfl rfl ?_
                  refine d_not rfl rfl rfl ?_
                  refine d_q rfl (q_pick_f rfl rfl rfl) rfl rfl ?_
                  refine d_nil ?_
                  refine k_then ?_
                  refine c_false rfl ?_
                  refine c_skip ?_
                  refine k_block ?_
                  refine k_then ?_
                  refine c_region _ rfl ?_
                  refine l_q rfl (q_move rfl rfl) rfl rfl ?_
                  refine l_q rfl (q_inc rfl rfl rfl (by omega)) rfl rfl ?_
                  refine l_q rfl (q_assign rfl rfl) rfl rfl ?_
                  refine l_nil ?_
                  exact k_round (b + 1) (by omega) (by omega) (Sub.cons rfl (Sub.cons rfl (Sub.cons rfl (Sub.cons rfl (Sub.cons rfl (Sub.cons rfl (Sub.cons rfl (Sub.cons rfl (Sub.nil))))))))) (fun _ h => h)
              · try simp only [decide_eq_true_eq, decide_eq_false_iff_not, Bool.not_eq_true', Bool.not_eq_false'] at hb
                refine c_false rfl ?_
                refine c_exit ?_
                refine k_then_exit ?_
                refine k_then_exit ?_
                refine k_block_exit ?_
                refine k_block ?_
                refine k_then ?_
                refine c_region _ rfl ?_
                refine l_q rfl (q_move rfl rfl) rfl rfl ?_
                refine l_q rfl (q_inc rfl rfl rfl (by omega)) rfl rfl ?_
                refine l_q rfl (q_assign rfl rfl) rfl rfl ?_
                refine l_nil ?_
                exact k_round (a + 1) (by omega) (by omega) (Sub.cons rfl (Sub.cons rfl (Sub.cons rfl (Sub.cons rfl (Sub.cons rfl (Sub.cons rfl (Sub.cons rfl (Sub.nil)))))))) (fun _ h => h)
          · try simp only [decide_eq_true_eq, decide_eq_false_iff_not, Bool.not_eq_true', Bool.not_eq_false'] at he
            refine d_not rfl rfl rfl ?_
            refine d_not rfl rfl rfl ?_
            refine d_not rfl rfl rfl ?_
            refine d_not rfl rfl rfl ?_
            refine d_not rfl rfl rfl ?_
            refine d_not rfl rfl rfl ?_
            refine d_q rfl (q_pick_f rfl rfl rfl) rfl rfl ?_
            refine d_q rfl (q_move rfl rfl) rfl rfl ?_
            refine d_not rfl rfl rfl ?_
            refine d_not rfl rfl rfl ?_
            refine d_not rfl rfl rfl ?_
            refine d_not rfl rfl rfl ?_
            refine d_not rfl rfl rfl ?_
            refine d_not rfl rfl rfl ?_
            refine d_not rfl rfl rfl ?_
            refine d_not rfl rfl rfl ?_
            refine d_not rfl rfl rfl ?_
            refine d_not rfl rfl rfl ?_
            refine d_not rfl rfl rfl ?_
            refine d_not rfl rfl rfl ?_
            refine d_not rfl rfl rfl ?_
            refine d_not rfl rfl rfl ?_
            refine d_not rfl rfl rfl ?_
            refine d_not rfl rfl rfl ?_
            refine d_not rfl rfl rfl ?_
            refine d_not rfl rfl rfl ?_
            refine d_not rfl rfl rfl ?_
            refine d_not rfl rfl rfl ?_
            refine d_not rfl rfl rfl ?_
            refine d_not rfl rfl rfl ?_
            refine d_not rfl rfl rfl ?_
            refine d_not rfl rfl rfl ?_
            refine d_not rfl rfl rfl ?_
            refine d_not rfl rfl rfl ?_
            refine d_not rfl rfl rfl ?_
            refine d_not rfl rfl rfl ?_
            refine d_not rfl rfl rfl ?_
            refine d_not rfl rfl rfl ?_
            refine d_not rfl rfl rfl ?_
            refine d_not rfl rfl rfl ?_
            refine d_not rfl rfl rfl ?_
            refine d_not rfl rfl rfl ?_
            refine d_not rfl rfl rfl ?_
            refine d_not rfl rfl rfl ?_
            refine d_not rfl rfl rfl ?_
            refine d_q rfl (q_pick_f rfl rfl rfl) rfl rfl ?_
            refine d_nil ?_
            refine k_then ?_
            refine c_false rfl ?_
            refine c_skip ?_
            refine k_then ?_
            refine c_seq ?_
            refine c_region _ rfl ?_
            refine l_q rfl (q_assign rfl rfl) rfl rfl ?_
            refine l_nil ?_
            refine k_then ?_
            refine c_block ?_
            refine c_loop1 (fun (b : Nat) => [(0, va), (3, .pointer (some ⟨r36, 0, none⟩)), (5, v), (6, .int .i64 (i : Int)), (8, .bool (decide (12 < x.what))), (9, v71), (10, .int .i64 (a : Int)), (11, .int .i64 (b : Int))]) (fun (b : Nat) => St w [] (rowE v71 44 FC.encA fl72 :: rowE v 44 FC.encA fl :: Q.H r36 q2)) (fun (b : Nat) => b ≤ a) (fun (b : Nat) => a - b) (0) (Nat.zero_le _) (Sub.cons rfl (Sub.cons rfl (Sub.cons rfl (Sub.cons rfl (Sub.cons rfl (Sub.cons rfl (Sub.cons rfl (Sub.cons rfl (Sub.nil))))))))) (fun _ h => h) ?_
            intro b hb6
            refine c_seq ?_
            refine c_seq ?_
            refine c_region _ rfl ?_
            refine l_q rfl (q_move rfl rfl) rfl rfl ?_
            refine l_q rfl (q_move rfl rfl) rfl rfl ?_
            refine l_q rfl (q_lss rfl rfl rfl) rfl rfl ?_
            refine l_nil ?_
            refine k_then ?_
            refine Pre.caseB 171 rfl (fun hb => ?_) (fun hb => ?_)
            · try simp only [decide_eq_true_eq, decide_eq_false_iff_not, Bool.not_eq_true', Bool.not_eq_false'] at hb
              obtain ⟨k, hgb⟩ : ∃ k, fl72[b]? = some k := ⟨_, List.getElem?_eq_getElem (by omega)⟩
              have hzb := frs_at hf73 hgb
              refine c_true rfl ?_
              refine c_skip ?_
              refine k_then ?_
              refine c_seq ?_
              refine c_block ?_
              refine c_seq ?_
              refine c_draw [(0, some true), (1, some true), (2, some true), (3, some true), (4, some true), (5, some true), (6, some true), (7, some true), (8, some true), (9, some true), (10, some true), (11, some true), (12, some true), (13, some true), (14, some true), (15, some true), (16, some true), (17, some true), (18, some true)] [] [(_, some true), (_, some true), (_, some true), (_, some true), (_, some true), (_, some true), (_, some true), (_, some true), (_, some true), (_, some true), (_, some true), (_, some true), (_, some true), (_, some true), (_, some true), (_, some true), (_, some true), (_, some true), (_, some true)] (fun w2 => RdV w2 v71 FC.encA fl72 ∧ RdV w2 v FC.encA fl) (blind_then (blind_block (blind_then (blind_then (blind_block (blind_block (blind_then (blind_then (blind_block (blind_then (blind_block (blind_then (blind_then (blind_block (blind_then blind_body))))))))))))))) rfl (by kernel_rfl) (by kernel_rfl) rfl rfl rfl (by kernel_rfl) St.drawn (fun _ h => ⟨h.rd 0 rfl, h.rd 1 rfl⟩) ?_
              refine d_q rfl (q_move rfl rfl) rfl rfl ?_
              refine d_q rfl (q_move rfl rfl) rfl rfl ?_
              refine d_q rfl (q_indexV a rfl Try.underlying39 Try.sizeOf44 rfl (fun _ h => h.1) rfl rfl (by omega)) rfl rfl ?_
              refine d_q rfl (q_fieldAddr rfl Try.underlying44 rfl Try.sizeOf3 rfl rfl) rfl rfl ?_
              refine d_q rfl (q_loadV a 1 rfl Try.isAgg3 rfl rfl (fun _ h => h.1) hga rfl) rfl rfl ?_
              refine d_q rfl (q_geq rfl rfl rfl) rfl rfl ?_
              refine d_q rfl (q_move rfl rfl) rfl rfl ?_
              refine Pre.caseB 180 rfl (fun h0b => ?_) (fun h0b => ?_)
              · try simp only [decide_eq_true_eq, decide_eq_false_iff_not, Bool.not_eq_true', Bool.not_eq_false'] at h0b
                have hne : ¬ g.blk = k.blk := one_blk hqk2.ok hza hzb (by omega) h0b
                refine d_q rfl (q_move rfl rfl) rfl rfl ?_
                refine d_q rfl (q_move rfl rfl) rfl rfl ?_
                refine d_q rfl (q_indexV a rfl Try.underlying39 Try.sizeOf44 rfl (fun _ h => h.1) rfl rfl (by omega)) rfl rfl ?_
                refine d_q rfl (q_fieldAddr rfl Try.underlying44 rfl Try.sizeOf3 rfl rfl) rfl rfl ?_
                refine d_q rfl (q_loadV a 1 rfl Try.isAgg3 rfl rfl (fun _ h => h.1) hga rfl) rfl rfl ?_
                refine d_q rfl (q_move rfl rfl) rfl rfl ?_
                refine d_q rfl (q_move rfl rfl) rfl rfl ?_
                refine d_q rfl (q_indexV b rfl Try.underlying39 Try.sizeOf44 rfl (fun _ h => h.1) rfl rfl (by omega)) rfl rfl ?_
                refine d_q rfl (q_fieldAddr rfl Try.underlying44 rfl Try.sizeOf3 rfl rfl) rfl rfl ?_
                refine d_q rfl (q_loadV b 1 rfl Try.isAgg3 rfl rfl (fun _ h => h.1) hgb rfl) rfl rfl ?_
                refine d_q rfl (q_eql rfl rfl rfl) rfl rfl ?_
                refine d_q rfl (q_pick_t rfl rfl rfl) rfl rfl ?_
                refine d_nil ?_
                refine k_then ?_
                refine Pre.setB (t := 192) (c := false) rfl (decide_eq_false hne) ?_
                refine c_false rfl ?_
                refine c_skip ?_
                refine k_block ?_
                refine k_then ?_
                refine c_region _ rfl ?_
                refine l_q rfl (q_move rfl rfl) rfl rfl ?_
                refine l_q rfl (q_inc rfl rfl rfl (by omega)) rfl rfl ?_
                refine l_q rfl (q_assign rfl rfl) rfl rfl ?_
                refine l_nil ?_
                exact k_round (b + 1) (by omega) (by omega) (Sub.cons rfl (Sub.cons rfl (Sub.cons rfl (Sub.cons rfl (Sub.cons rfl (Sub.cons rfl (Sub.cons rfl (Sub.cons rfl (Sub.nil))))))))) (fun _ h => h)
              · try simp only [decide_eq_true_eq, decide_eq_false_iff_not, Bool.not_eq_true', Bool.not_eq_false'] at h0b
                refine d_not rfl rfl rfl ?_
                refine d_not rfl rfl rfl ?_
                refine d_not rfl rfl rfl ?_
                refine d_not rfl rfl rfl ?_
                refine d_not rfl rfl rfl ?_
                refine d_not rfl rfl rfl ?_
                refine d_not rfl rfl rfl ?_
                refine d_not rfl rfl rfl ?_
                refine d_not rfl rfl rfl ?_
                refine d_not rfl rfl rfl ?_
                refine d_not rfl rfl rfl ?_
                refine d_q rfl (q_pick_f rfl rfl rfl) rfl rfl ?_
                refine d_nil ?_
                refine k_then ?_
                refine c_false rfl ?_
                refine c_skip ?_
                refine k_block ?_
                refine k_then ?_
                refine c_region _ rfl ?_
                refine l_q rfl (q_move rfl rfl) rfl rfl ?_
                refine l_q rfl (q_inc rfl rfl rfl (by omega)) rfl rfl ?_
                refine l_q rfl (q_assign rfl rfl) rfl rfl ?_
                refine l_nil ?_
                exact k_round (b + 1) (by omega) (by omega) (Sub.cons rfl (Sub.cons rfl (Sub.cons rfl (Sub.cons rfl (Sub.cons rfl (Sub.cons rfl (Sub.cons rfl (Sub.cons rfl (Sub.nil))))))))) (fun _ h => h)
            · try simp only [decide_eq_true_eq, decide_eq_false_iff_not, Bool.not_eq_true', Bool.not_eq_false'] at hb
              refine c_false rfl ?_
              refine c_exit ?_
              refine k_then_exit ?_
              refine k_then_exit ?_
              refine k_block_exit ?_
              refine k_block ?_
              refine k_then ?_
              refine c_region _ rfl ?_
              refine l_q rfl (q_move rfl rfl) rfl rfl ?_
              refine l_q rfl (q_inc rfl rfl rfl (by omega)) rfl rfl ?_
              refine l_q rfl (q_assign rfl rfl) rfl rfl ?_
              refine l_nil ?_
              exact k_round (a + 1) (by omega) (by omega) (Sub.cons rfl (Sub.cons rfl (Sub.cons rfl (Sub.cons rfl (Sub.cons rfl (Sub.cons rfl (Sub.cons rfl (Sub.nil)))))))) (fun _ h => h)
        · try simp only [decide_eq_true_eq, decide_eq_false_iff_not, Bool.not_eq_true', Bool.not_eq_false'] at ha
          refine c_false rfl ?_
          refine c_exit ?_
          refine k_then_exit ?_
          refine k_then_exit ?_
          refine k_block_exit ?_
          refine k_then ?_
          refine c_region _ rfl ?_
          refine l_q rfl (q_move rfl rfl) rfl rfl ?_
          refine l_q rfl (q_assign rfl rfl) rfl rfl ?_
          refine l_nil ?_
          refine k_block ?_
          refine k_then ?_
          refine c_region _ rfl ?_
          refine l_q rfl (q_move rfl rfl) rfl rfl ?_
          refine l_q rfl (q_inc rfl rfl rfl (by omega)) rfl rfl ?_
          refine l_q rfl (q_assign rfl rfl) rfl rfl ?_
          refine l_nil ?_
          refine pull1 ?_
          refine drop0 ?_
          exact k_round ((i + 1, q2, v71, fl72)) (by dsimp only; omega) ⟨by dsimp only; omega, hqk2, hq62, hf73⟩ (Sub.cons rfl (Sub.cons rfl (Sub.cons rfl (Sub.cons rfl (Sub.nil))))) (fun _ h => h)
    · try simp only [decide_eq_true_eq, decide_eq_false_iff_not, Bool.not_eq_true', Bool.not_eq_false'] at h1i
      refine c_false rfl ?_
      refine c_exit ?_
      refine k_then_exit ?_
      refine k_then_exit ?_
      refine k_block_exit ?_
      refine k_then ?_
      refine c_seq ?_
      refine c_region _ rfl ?_
      refine l_e rfl ?_
      refine e_call_00 (awake_spec) rfl rfl rfl Try.call15 rfl (fun _ _ => trivial) ?_
      intro _ _
      refine l_q rfl (q_assign rfl rfl) rfl rfl ?_
      refine l_nil ?_
      refine k_then ?_
      refine c_ret ?_
      refine r_one rfl rfl ?_
      exact fun _ h => ⟨(), rfl, trivial, h.nothing⟩
theorem cacheOnce_walk (w : World) (A0 : Option Addr) (n0 c0 : Nat) (x0 : List Value) (e0 : x0.length = n0 * kinds_0.length) (rd0 : Rd w w.heap.size A0 x0) (l0 : n0 ≤ c0) (m0 : c0 ≤ maxLen) (kk0 : ∀ i, i < n0 → Kinds kinds_0 ((x0.drop (i * kinds_0.length)).take kinds_0.length)) :
    Calls Try.prog 7 #[.slice A0 n0 c0] w fun e w' => e = .returned (.bool true) ∧ Below w.heap.size w w' := by
  obtain ⟨l, rfl, rfl, hW⟩ := flat_of encSp (ks := kinds_0) rfl sp_one n0 x0 e0 kk0
  exact con_walk (once_spec l) (rdv_of rd0 l0)
end Go.Proofs.Ytpfbagkjhchojaa
