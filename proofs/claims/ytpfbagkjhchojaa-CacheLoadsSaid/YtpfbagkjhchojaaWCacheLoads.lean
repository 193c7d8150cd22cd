/- CacheLoads, walked -/
import Derived.Test.YtpfbagkjhchojaaWl
import Derived.Test.YtpfbagkjhchojaaS9
set_option linter.unusedVariables false
set_option linter.unusedSimpArgs false
namespace Go.Proofs.Ytpfbagkjhchojaa
open Go.Sep Go.RowKit

set_option maxRecDepth 100000 in
set_option maxHeartbeats 1000000 in
theorem loads_spec {va : Value} (bb : Int) (l : List Int) (hu : ∀ x ∈ l, (Lit.int .u8 x).wf = true) : Con Try.prog 3 [.int .i64 bb, va] (fun w => RdV w va (encI .u8) l) [] (fun _ : Unit => .bool true) (fun _ => True) (fun _ => []) := by
  intro w hl hH
  refine enter (n := 143) (vs := [.int .i64 bb, va]) (St w [] []) Try.func3 rfl rfl rfl (St.init hH) ?_
  refine c_seq ?_
  refine c_region _ rfl ?_
  refine l_q rfl (q_assign rfl rfl) rfl rfl ?_
  refine l_nil ?_
  refine k_then ?_
  refine c_seq ?_
  refine c_region _ rfl ?_
  refine l_e rfl ?_
  refine e_callH [] (HA := []) (qnew 3 (by decide) (by decide)) rfl rfl rfl Try.call9 rfl (fun _ _ => trivial) ?_
  rintro ⟨r36, r36_⟩ ⟨hm37, hg38, hk39⟩
  dsimp only at hm37 hg38 hk39
  refine Pre.world (St _ _ (Q.H r36 r36_)) (fun _ h => h) ?_
  refine l_q rfl (q_move rfl rfl) rfl rfl ?_
  refine l_q rfl (q_extract rfl rfl rfl) rfl rfl ?_
  refine l_q rfl (q_extract rfl rfl rfl) rfl rfl ?_
  refine l_q rfl (q_assign rfl rfl) rfl rfl ?_
  refine l_q rfl (q_assign rfl rfl) rfl rfl ?_
  refine l_nil ?_
  refine k_then ?_
  refine c_seq ?_
  refine c_seq ?_
  refine c_region _ rfl ?_
  refine l_q rfl (q_move rfl rfl) rfl rfl ?_
  refine l_q rfl (q_neq rfl rfl rfl) rfl rfl ?_
  refine l_q rfl (q_move rfl rfl) rfl rfl ?_
  refine Pre.setB (t := 23) (c := false) rfl (rfl) ?_
  refine l_q rfl (q_move rfl rfl) rfl rfl ?_
  refine l_q rfl (q_eqp rfl Try.underlying23 rfl rfl) rfl rfl ?_
  refine l_q rfl (q_pick_f rfl rfl rfl) rfl rfl ?_
  refine l_nil ?_
  refine k_then ?_
  refine Pre.setB (t := 26) (c := false) rfl (rfl) ?_
  refine c_false rfl ?_
  refine c_skip ?_
  refine k_then ?_
  refine c_seq ?_
  refine c_region _ rfl ?_
  refine l_q rfl (q_move rfl rfl) rfl rfl ?_
  obtain ⟨b, hb, hb0, hb1⟩ : ∃ b : Int, bb % 256 = b ∧ 0 ≤ b ∧ b < 256 := ⟨bb % 256, rfl, by omega, by omega⟩
  have hbk := bk_in ⟨hb0, hb1⟩
  refine l_e rfl ?_
  refine e_call_00 (plc_spec bb 256 (by decide) (by decide)) rfl rfl rfl Try.call10 rfl (fun _ _ => trivial) ?_
  intro _ _
  rw [hb]
  refine l_q rfl (q_assign rfl rfl) rfl rfl ?_
  refine l_nil ?_
  refine k_then ?_
  refine c_seq ?_
  refine c_region _ rfl ?_
  refine l_q rfl (q_assign rfl rfl) rfl rfl ?_
  refine l_nil ?_
  refine k_then ?_
  refine c_seq ?_
  refine c_seq ?_
  refine c_region _ rfl ?_
  refine l_q rfl (q_assign rfl rfl) rfl rfl ?_
  refine l_nil ?_
  refine k_then ?_
  refine c_block ?_
  refine row0 3 (encI .i64) none ?_
  refine c_loop4 (fun (i : Nat) (q : Q) (v : Value) (cm : List Int) => [(1, va), (5, .pointer (some ⟨r36, 0, none⟩)), (7, .int .i64 b), (8, v), (9, .int .i64 (i : Int))]) (fun (i : Nat) (q : Q) (v : Value) (cm : List Int) => St w [] (rowE v 3 (encI .i64) cm :: Q.H r36 q)) (fun (i : Nat) (q : Q) (v : Value) (cm : List Int) => (i ≤ l.length ∧ i ≤ 40) ∧ q.M = lod b cm ∧ q.Ok i ∧ cm.length ≤ i ∧ cm.Nodup) (fun (i : Nat) (q : Q) (v : Value) (cm : List Int) => l.length - i) (0) (r36_) (.slice none 0 0) ([]) ⟨⟨Nat.zero_le _, by decide⟩, hm37, hk39, Nat.le_refl _, List.nodup_nil⟩ (Sub.cons rfl (Sub.cons rfl (Sub.cons rfl (Sub.cons rfl (Sub.cons rfl (Sub.nil)))))) (fun _ h => h) ?_
  intro i q v cm hp
  refine c_seq ?_
  refine c_seq ?_
  obtain ⟨⟨hi, hi40⟩, hqM, hqk, hcl, hnd⟩ := hp
  refine c_region _ rfl ?_
  refine l_q rfl (q_move rfl rfl) rfl rfl ?_
  refine l_q rfl (q_move rfl rfl) rfl rfl ?_
  refine l_q rfl (q_lenV rfl Try.underlying22 rfl (fun _ h => hl.keep h (by simp [dom]))) rfl rfl ?_
  refine l_q rfl (q_lss rfl rfl rfl) rfl rfl ?_
  refine l_q rfl (q_move rfl rfl) rfl rfl ?_
  refine Pre.caseB 33 rfl (fun h1i => ?_) (fun h1i => ?_)
  · try simp only [decide_eq_true_eq, decide_eq_false_iff_not, Bool.not_eq_true', Bool.not_eq_false'] at h1i
    refine l_q rfl (q_move rfl rfl) rfl rfl ?_
    refine l_q rfl (q_lss rfl rfl rfl) rfl rfl ?_
    refine l_q rfl (q_pick_t rfl rfl rfl) rfl rfl ?_
    refine l_nil ?_
    refine k_then ?_
    refine Pre.caseB 36 rfl (fun h2i => ?_) (fun h2i => ?_)
    · try simp only [decide_eq_true_eq, decide_eq_false_iff_not, Bool.not_eq_true', Bool.not_eq_false'] at h2i
      obtain ⟨x, hx⟩ : ∃ x, l[i]? = some x := ⟨_, List.getElem?_eq_getElem (by omega)⟩
      obtain ⟨hx0, hx1⟩ := u8_in hu hx
      obtain ⟨t, ht, ht0, ht1⟩ : ∃ t : Int, x % 8 = t ∧ 0 ≤ t ∧ t < 8 := ⟨x % 8, rfl, by omega, by omega⟩
      have htk := tk_in ⟨ht0, ht1⟩
      refine c_true rfl ?_
      refine c_skip ?_
      refine k_then ?_
      refine c_seq ?_
      refine c_block ?_
      refine c_seq ?_
      refine c_region _ rfl ?_
      refine l_q rfl (q_move rfl rfl) rfl rfl ?_
      refine l_q rfl (q_move rfl rfl) rfl rfl ?_
      refine l_q rfl (q_indexV i rfl Try.underlying22 Try.sizeOf5 rfl (fun _ h => hl.keep h (by simp [dom])) rfl rfl (by omega)) rfl rfl ?_
      refine l_q rfl (q_loadV i 0 rfl Try.isAgg5 rfl rfl (fun _ h => hl.keep h (by simp [dom])) hx rfl) rfl rfl ?_
      refine l_q rfl (q_rem_nn rfl rfl rfl hx0 (by omega)) rfl rfl ?_
      refine l_q rfl (q_conv_in rfl Try.underlying5 Try.underlying3 rfl (by first | rfl | (simp only [IntKind.wrap]; omega) | exact wrap64_in (by omega))) rfl rfl ?_
      refine l_q rfl (q_assign rfl rfl) rfl rfl ?_
      refine l_nil ?_
      refine k_then ?_
      refine c_seq ?_
      refine c_region _ rfl ?_
      refine l_q rfl (q_assign rfl rfl) rfl rfl ?_
      refine l_nil ?_
      refine k_then ?_
      refine c_seq ?_
      refine c_seq ?_
      refine Pre.setV (t := 10) (c := .int .i64 t) rfl (by rw [ht]) ?_
      refine list_cases cm (fun hc => ?_) (fun t0 r hc => ?_)
      · subst hc
        refine c_region _ rfl ?_
        refine l_q rfl (q_move rfl rfl) rfl rfl ?_
        refine l_q rfl (q_lenV rfl Try.underlying28 rfl (fun _ h => h.rd 0 rfl)) rfl rfl ?_
        refine l_q rfl (q_eql rfl rfl rfl) rfl rfl ?_
        refine l_nil ?_
        refine k_then ?_
        refine Pre.setB (t := 47) (c := true) rfl (rfl) ?_
        refine c_true rfl ?_
        refine c_region _ rfl ?_
        refine l_q rfl (q_assign rfl rfl) rfl rfl ?_
        refine l_nil ?_
        refine k_then ?_
        refine c_seq ?_
        refine c_seq ?_
        refine c_region _ rfl ?_
        refine l_q rfl (q_move rfl rfl) rfl rfl ?_
        refine l_q rfl (q_move rfl rfl) rfl rfl ?_
        refine l_e rfl ?_
        refine e_call_00 (place8_spec [] t (by decide)) rfl rfl rfl Try.call11 rfl (fun _ h => h.rd 0 rfl) ?_
        intro _ _
        refine l_q rfl (q_geq rfl rfl rfl) rfl rfl ?_
        refine l_nil ?_
        refine k_then ?_
        refine Pre.setB (t := 51) (c := false) rfl (rfl) ?_
        refine c_false rfl ?_
        refine c_skip ?_
        refine k_then ?_
        refine c_seq ?_
        refine c_seq ?_
        refine c_region _ rfl ?_
        refine l_q rfl (q_move rfl rfl) rfl rfl ?_
        refine l_q rfl (q_move rfl rfl) rfl rfl ?_
        refine l_q rfl (q_move rfl rfl) rfl rfl ?_
        refine l_e rfl ?_
        refine e_callH [_] (qpin hqk (by omega) (t) (b) (i64_in (by omega) (by omega))) rfl rfl rfl Try.call12 rfl (fun _ _ => trivial) ?_
        rintro q40 ⟨hm41_, _, hk42⟩
        refine Pre.world (St _ _ (_ :: Q.H r36 q40)) (fun _ h => h) ?_
        have hm41 : q40.M = (lod b [t]) := by rw [hm41_, hqM]; exact congrArg Prod.snd (lod_first hbk htk)
        refine Pre.setV (t := 67) (c := .int .i64 3) rfl (by rw [hqM]; exact congrArg _ (congrArg Prod.fst (lod_first hbk htk))) ?_
        refine l_q rfl (q_move rfl rfl) rfl rfl ?_
        refine l_q rfl (q_neq rfl rfl rfl) rfl rfl ?_
        refine l_q rfl (q_move rfl rfl) rfl rfl ?_
        refine Pre.setB (t := 70) (c := false) rfl (rfl) ?_
        refine l_q rfl (q_move rfl rfl) rfl rfl ?_
        refine l_q rfl (q_move rfl rfl) rfl rfl ?_
        refine l_e rfl ?_
        refine e_callH [_] (qmay hk42 t) rfl rfl rfl Try.call13 rfl (fun _ _ => trivial) ?_
        rintro _ _
        refine Pre.world (St _ _ (_ :: Q.H r36 q40)) (fun _ h => h) ?_
        refine Pre.setV (t := 73) (c := .bool true) rfl (by rw [hm41]; exact congrArg _ (lod_may1 htk)) ?_
        refine l_q rfl (q_move rfl rfl) rfl rfl ?_
        refine l_q rfl (q_lenV rfl Try.underlying28 rfl (fun _ h => h.rd 0 rfl)) rfl rfl ?_
        refine l_q rfl (q_eql rfl rfl rfl) rfl rfl ?_
        refine l_q rfl (q_neb rfl Try.underlying4 rfl rfl) rfl rfl ?_
        refine l_q rfl (q_pick_f rfl rfl rfl) rfl rfl ?_
        refine l_nil ?_
        refine k_then ?_
        refine Pre.setB (t := 78) (c := false) rfl (rfl) ?_
        refine c_false rfl ?_
        refine c_skip ?_
        refine k_then ?_
        refine c_region _ rfl ?_
        refine l_q rfl (q_move rfl rfl) rfl rfl ?_
        refine l_q rfl (q_move rfl rfl) rfl rfl ?_
        refine l_e rfl ?_
        refine e_buildSliceV (sz := 1) [.tmp 80] rfl rfl rfl rfl rfl Try.underlying28 Try.sizeOf3 rfl Try.zeroValue3 rfl ?_
        intro b1
        refine pull1 ?_
        refine l_e rfl ?_
        refine e_append rfl rfl rfl Try.underlying28 Try.underlying28 info3 rfl rfl rfl rfl rfl (fun _ h => lit_rd (h.at 1 rfl) (encI .i64) [t] rfl rfl) (by simp only [byt3, List.length_append, List.length_cons, List.length_nil]; omega) (by simp only [List.length_append, List.length_cons, List.length_nil]; omega) ?_
        intro v2
        refine row_eq (show _ = [t] from rfl) ?_
        refine pull1 ?_
        refine drop0 ?_
        refine l_q rfl (q_assign rfl rfl) rfl rfl ?_
        refine l_nil ?_
        refine k_block ?_
        refine k_then ?_
        refine c_region _ rfl ?_
        refine l_q rfl (q_move rfl rfl) rfl rfl ?_
        refine l_q rfl (q_inc rfl rfl rfl (by omega)) rfl rfl ?_
        refine l_q rfl (q_assign rfl rfl) rfl rfl ?_
        refine l_nil ?_
        exact k_round ((i + 1, q40, v2, [t])) (by dsimp only; omega) ⟨by dsimp only; omega, hm41, hk42, by dsimp only; first | omega | (simp only [List.length_cons, List.length_append, List.length_nil] at *; omega), List.nodup_cons.2 ⟨List.not_mem_nil, List.nodup_nil⟩⟩ (Sub.cons rfl (Sub.cons rfl (Sub.cons rfl (Sub.cons rfl (Sub.cons rfl (Sub.nil)))))) (fun _ h => h)
      · subst hc
        have hcl1 : (t0 :: r).length = r.length + 1 := rfl
        refine c_region _ rfl ?_
        refine l_q rfl (q_move rfl rfl) rfl rfl ?_
        refine l_q rfl (q_lenV rfl Try.underlying28 rfl (fun _ h => h.rd 0 rfl)) rfl rfl ?_
        refine l_q rfl (q_eql rfl rfl rfl) rfl rfl ?_
        refine l_nil ?_
        refine k_then ?_
        refine Pre.setB (t := 47) (c := false) rfl (decide_eq_false (by omega)) ?_
        refine c_false rfl ?_
        refine c_skip ?_
        refine k_then ?_
        refine c_seq ?_
        refine c_seq ?_
        refine c_region _ rfl ?_
        refine l_q rfl (q_move rfl rfl) rfl rfl ?_
        refine l_q rfl (q_move rfl rfl) rfl rfl ?_
        refine l_e rfl ?_
        refine e_call_00 (place8_spec (t0 :: r) t (by omega)) rfl rfl rfl Try.call11 rfl (fun _ h => h.rd 0 rfl) ?_
        intro _ _
        refine l_q rfl (q_geq rfl rfl rfl) rfl rfl ?_
        refine l_nil ?_
        refine k_then ?_
        refine Pre.caseB 51 rfl (fun hp8 => ?_) (fun hp8 => ?_)
        · try simp only [io_ge, fst1_mem, decide_eq_true_eq, decide_eq_false_iff_not] at hp8
          refine c_true rfl ?_
          refine c_seq ?_
          refine c_seq ?_
          refine c_region _ rfl ?_
          refine l_q rfl (q_move rfl rfl) rfl rfl ?_
          refine l_q rfl (q_move rfl rfl) rfl rfl ?_
          refine l_q rfl (q_indexV 0 rfl Try.underlying28 Try.sizeOf3 rfl (fun _ h => h.rd 0 rfl) rfl rfl (by omega)) rfl rfl ?_
          refine l_q rfl (q_loadV 0 0 rfl Try.isAgg3 rfl rfl (fun _ h => h.rd 0 rfl) (rfl : (t0 :: r)[0]? = some t0) rfl) rfl rfl ?_
          refine l_q rfl (q_neq rfl rfl rfl) rfl rfl ?_
          refine l_q rfl (q_move rfl rfl) rfl rfl ?_
          refine Pre.caseB 57 rfl (fun ht0e => ?_) (fun ht0e => ?_)
          · try simp only [decide_eq_true_eq, decide_eq_false_iff_not, Bool.not_eq_true', Bool.not_eq_false'] at ht0e
            have htr : t ∈ r := by rcases List.mem_cons.1 hp8 with e | e; exact absurd e ht0e; exact e
            refine l_q rfl (q_move rfl rfl) rfl rfl ?_
            refine l_q rfl (q_move rfl rfl) rfl rfl ?_
            refine l_q rfl (q_move rfl rfl) rfl rfl ?_
            refine l_e rfl ?_
            refine e_callH [_] (qpin hqk (by omega) (t) (b) (i64_in (by omega) (by omega))) rfl rfl rfl Try.call12 rfl (fun _ _ => trivial) ?_
            rintro q43 ⟨hm44_, _, hk45⟩
            refine Pre.world (St _ _ (_ :: Q.H r36 q43)) (fun _ h => h) ?_
            have hm44 : q43.M = (lod b (t0 :: r)) := by rw [hm44_, hqM]; exact congrArg Prod.snd (lod_wait htr)
            refine Pre.setV (t := 61) (c := .int .i64 0) rfl (by rw [hqM]; exact congrArg _ (congrArg Prod.fst (lod_wait htr))) ?_
            refine l_q rfl (q_neq rfl rfl rfl) rfl rfl ?_
            refine l_q rfl (q_pick_t rfl rfl rfl) rfl rfl ?_
            refine l_nil ?_
            refine k_then ?_
            refine Pre.setB (t := 63) (c := false) rfl (rfl) ?_
            refine c_false rfl ?_
            refine c_skip ?_
            refine k_then ?_
            refine c_exit ?_
            refine k_then_exit ?_
            refine k_block_exit ?_
            refine k_then ?_
            refine c_region _ rfl ?_
            refine l_q rfl (q_move rfl rfl) rfl rfl ?_
            refine l_q rfl (q_inc rfl rfl rfl (by omega)) rfl rfl ?_
            refine l_q rfl (q_assign rfl rfl) rfl rfl ?_
            refine l_nil ?_
            exact k_round ((i + 1, q43, v, (t0 :: r))) (by dsimp only; omega) ⟨by dsimp only; omega, hm44, hk45, by dsimp only; first | omega | (simp only [List.length_cons, List.length_append, List.length_nil] at *; omega), hnd⟩ (Sub.cons rfl (Sub.cons rfl (Sub.cons rfl (Sub.cons rfl (Sub.cons rfl (Sub.nil)))))) (fun _ h => h)
          · try simp only [decide_eq_true_eq, decide_eq_false_iff_not, Bool.not_eq_true', Bool.not_eq_false'] at ht0e
            refine l_not rfl rfl rfl ?_
            refine l_not rfl rfl rfl ?_
            refine l_not rfl rfl rfl ?_
            refine l_not rfl rfl rfl ?_
            refine l_not rfl rfl rfl ?_
            refine l_q rfl (q_pick_f rfl rfl rfl) rfl rfl ?_
            refine l_nil ?_
            refine k_then ?_
            refine c_false rfl ?_
            refine c_skip ?_
            refine k_then ?_
            refine c_exit ?_
            refine k_then_exit ?_
            refine k_block_exit ?_
            refine k_then ?_
            refine c_region _ rfl ?_
            refine l_q rfl (q_move rfl rfl) rfl rfl ?_
            refine l_q rfl (q_inc rfl rfl rfl (by omega)) rfl rfl ?_
            refine l_q rfl (q_assign rfl rfl) rfl rfl ?_
            refine l_nil ?_
            exact k_round ((i + 1, q, v, (t0 :: r))) (by dsimp only; omega) ⟨by dsimp only; omega, hqM, hqk.mono (Nat.le_succ _) (by omega), by dsimp only; first | omega | (simp only [List.length_cons, List.length_append, List.length_nil] at *; omega), hnd⟩ (Sub.cons rfl (Sub.cons rfl (Sub.cons rfl (Sub.cons rfl (Sub.cons rfl (Sub.nil)))))) (fun _ h => h)
        · try simp only [io_ge, fst1_mem, decide_eq_true_eq, decide_eq_false_iff_not] at hp8
          have htr : t ∉ r := fun e => hp8 (List.mem_cons_of_mem _ e)
          refine c_false rfl ?_
          refine c_skip ?_
          refine k_then ?_
          refine c_seq ?_
          refine c_seq ?_
          refine c_region _ rfl ?_
          refine l_q rfl (q_move rfl rfl) rfl rfl ?_
          refine l_q rfl (q_move rfl rfl) rfl rfl ?_
          refine l_q rfl (q_move rfl rfl) rfl rfl ?_
          refine l_e rfl ?_
          refine e_callH [_] (qpin hqk (by omega) (t) (b) (i64_in (by omega) (by omega))) rfl rfl rfl Try.call12 rfl (fun _ _ => trivial) ?_
          rintro q46 ⟨hm47_, _, hk48⟩
          refine Pre.world (St _ _ (_ :: Q.H r36 q46)) (fun _ h => h) ?_
          have hm47 : q46.M = (lod b (t0 :: (r ++ [t]))) := by rw [hm47_, hqM]; exact congrArg Prod.snd (lod_next hbk htk htr)
          refine Pre.setV (t := 67) (c := .int .i64 2) rfl (by rw [hqM]; exact congrArg _ (congrArg Prod.fst (lod_next hbk htk htr))) ?_
          refine l_q rfl (q_move rfl rfl) rfl rfl ?_
          refine l_q rfl (q_neq rfl rfl rfl) rfl rfl ?_
          refine l_q rfl (q_move rfl rfl) rfl rfl ?_
          refine Pre.setB (t := 70) (c := false) rfl (rfl) ?_
          refine l_q rfl (q_move rfl rfl) rfl rfl ?_
          refine l_q rfl (q_move rfl rfl) rfl rfl ?_
          refine l_e rfl ?_
          refine e_callH [_] (qmay hk48 t) rfl rfl rfl Try.call13 rfl (fun _ _ => trivial) ?_
          rintro _ _
          refine Pre.world (St _ _ (_ :: Q.H r36 q46)) (fun _ h => h) ?_
          refine Pre.setV (t := 73) (c := .bool false) rfl (by rw [hm47]; exact congrArg _ (lod_may2 b t t0 r)) ?_
          refine l_q rfl (q_move rfl rfl) rfl rfl ?_
          refine l_q rfl (q_lenV rfl Try.underlying28 rfl (fun _ h => h.rd 0 rfl)) rfl rfl ?_
          refine l_q rfl (q_eql rfl rfl rfl) rfl rfl ?_
          refine l_q rfl (q_neb rfl Try.underlying4 rfl rfl) rfl rfl ?_
          refine l_q rfl (q_pick_f rfl rfl rfl) rfl rfl ?_
          refine l_nil ?_
          refine k_then ?_
          refine Pre.setB (t := 78) (c := false) rfl (by rw [decide_eq_false (show ¬ (((t0 :: r).length : Nat) : Int) = 0 by omega)]; rfl) ?_
          refine c_false rfl ?_
          refine c_skip ?_
          refine k_then ?_
          refine c_region _ rfl ?_
          refine l_q rfl (q_move rfl rfl) rfl rfl ?_
          refine l_q rfl (q_move rfl rfl) rfl rfl ?_
          refine l_e rfl ?_
          refine e_buildSliceV (sz := 1) [.tmp 80] rfl rfl rfl rfl rfl Try.underlying28 Try.sizeOf3 rfl Try.zeroValue3 rfl ?_
          intro b2
          refine pull1 ?_
          refine l_e rfl ?_
          refine e_append rfl rfl rfl Try.underlying28 Try.underlying28 info3 rfl rfl rfl rfl rfl (fun _ h => lit_rd (h.at 1 rfl) (encI .i64) [t] rfl rfl) (by simp only [byt3, List.length_append, List.length_cons, List.length_nil]; omega) (by simp only [List.length_append, List.length_cons, List.length_nil]; omega) ?_
          intro v2
          refine row_eq (show _ = t0 :: (r ++ [t]) from rfl) ?_
          refine pull1 ?_
          refine drop0 ?_
          refine l_q rfl (q_assign rfl rfl) rfl rfl ?_
          refine l_nil ?_
          refine k_block ?_
          refine k_then ?_
          refine c_region _ rfl ?_
          refine l_q rfl (q_move rfl rfl) rfl rfl ?_
          refine l_q rfl (q_inc rfl rfl rfl (by omega)) rfl rfl ?_
          refine l_q rfl (q_assign rfl rfl) rfl rfl ?_
          refine l_nil ?_
          exact k_round ((i + 1, q46, v2, (t0 :: (r ++ [t])))) (by dsimp only; omega) ⟨by dsimp only; omega, hm47, hk48, by dsimp only; first | omega | (simp only [List.length_cons, List.length_append, List.length_nil] at *; omega), by
              show ((t0 :: r) ++ [t]).Nodup
              exact List.nodup_append.2 ⟨hnd, List.nodup_cons.2 ⟨List.not_mem_nil, List.nodup_nil⟩, fun a ha b hb e => by rw [List.mem_singleton] at hb; subst hb; subst e; exact hp8 ha⟩⟩ (Sub.cons rfl (Sub.cons rfl (Sub.cons rfl (Sub.cons rfl (Sub.cons rfl (Sub.nil)))))) (fun _ h => h)
    · try simp only [decide_eq_true_eq, decide_eq_false_iff_not, Bool.not_eq_true', Bool.not_eq_false'] at h2i
      refine c_false rfl ?_
      refine c_exit ?_
      refine k_then_exit ?_
      refine k_then_exit ?_
      refine k_block_exit ?_
      refine k_then ?_
      refine c_seq ?_
      refine c_seq ?_
      refine c_region _ rfl ?_
      refine l_q rfl (q_move rfl rfl) rfl rfl ?_
      refine l_q rfl (q_lenV rfl Try.underlying28 rfl (fun _ h => h.rd 0 rfl)) rfl rfl ?_
      refine l_q rfl (q_eql rfl rfl rfl) rfl rfl ?_
      refine l_nil ?_
      refine k_then ?_
      refine list_cases cm (fun hc => ?_) (fun t0 r hc => ?_)
      · subst hc
        refine Pre.setB (t := 85) (c := true) rfl (rfl) ?_
        refine c_true rfl ?_
        refine c_seq ?_
        refine c_region _ rfl ?_
        refine l_q rfl (q_move rfl rfl) rfl rfl ?_
        refine l_q rfl (q_move rfl rfl) rfl rfl ?_
        refine l_q rfl (q_build (nvL.c) rfl rfl (fun w => by kernel_rfl)) rfl rfl ?_
        refine row0 121 En.enc none ?_
        refine pull1 ?_
        refine Pre.world (St _ _ (_ :: nrow nvL :: _)) (fun _ h => h) ?_
        refine l_e rfl ?_
        refine e_callH [_] (qfill hqk nvL (by show 0 ≤ 1000; decide) b) rfl rfl rfl Try.call14 rfl (fun _ _ => trivial) ?_
        rintro ⟨q49, v50⟩ ⟨hm51_, _, hk52⟩
        refine Pre.world (St _ _ (_ :: rowE v50 3 (encI .i64) (q.M.fill b nvL.leaf nvL.l).1.1 :: nrow nvL :: Q.H r36 q49)) (fun _ h => h) ?_
        dsimp only at hm51_ hk52
        have hm51 : q49.M = (lod b []) := by rw [hm51_, hqM]; exact congrArg Prod.snd (lod_fill0 _ _ _)
        have ht53 : (q.M.fill b nvL.leaf nvL.l).1 = ([], false) := by rw [hqM]; exact congrArg Prod.fst (lod_fill0 _ _ _)
        refine pull1 ?_
        refine row_eq (show _ = [] from congrArg Prod.fst ht53) ?_
        refine Pre.setV (t := 90) (c := .tuple #[v50, .bool false]) rfl (by rw [congrArg Prod.snd ht53]) ?_
        refine l_q rfl (q_move rfl rfl) rfl rfl ?_
        refine l_q rfl (q_extract rfl rfl rfl) rfl rfl ?_
        refine l_q rfl (q_extract rfl rfl rfl) rfl rfl ?_
        refine l_q rfl (q_assign rfl rfl) rfl rfl ?_
        refine l_q rfl (q_assign rfl rfl) rfl rfl ?_
        refine l_nil ?_
        refine k_then ?_
        refine c_seq ?_
        refine c_region _ rfl ?_
        refine l_q rfl (q_move rfl rfl) rfl rfl ?_
        refine l_q rfl (q_not rfl rfl) rfl rfl ?_
        refine l_q rfl (q_move rfl rfl) rfl rfl ?_
        refine Pre.setB (t := 95) (c := true) rfl (rfl) ?_
        refine l_e rfl ?_
        refine e_call_00 (awake_spec) rfl rfl rfl Try.call15 rfl (fun _ _ => trivial) ?_
        intro _ _
        refine l_q rfl (q_pick_t rfl rfl rfl) rfl rfl ?_
        refine l_q rfl (q_assign rfl rfl) rfl rfl ?_
        refine l_nil ?_
        refine k_then ?_
        refine c_ret ?_
        refine k_then_ret ?_
        refine r_one rfl rfl ?_
        exact fun _ h => ⟨(), rfl, trivial, h.nothing⟩
      · subst hc
        have hcl1 : (t0 :: r).length = r.length + 1 := rfl
        refine Pre.setB (t := 85) (c := false) rfl (decide_eq_false (by omega)) ?_
        refine c_false rfl ?_
        refine c_skip ?_
        refine k_then ?_
        refine c_seq ?_
        refine c_region _ rfl ?_
        refine l_q rfl (q_move rfl rfl) rfl rfl ?_
        refine l_q rfl (q_move rfl rfl) rfl rfl ?_
        refine l_q rfl (q_build (nvL.c) rfl rfl (fun w => by kernel_rfl)) rfl rfl ?_
        refine row0 121 En.enc none ?_
        refine pull1 ?_
        refine Pre.world (St _ _ (_ :: nrow nvL :: _)) (fun _ h => h) ?_
        refine l_e rfl ?_
        refine e_callH [_] (qfill hqk nvL (by show 0 ≤ 1000; decide) b) rfl rfl rfl Try.call14 rfl (fun _ _ => trivial) ?_
        rintro ⟨q54, v55⟩ ⟨hm56_, _, hk57⟩
        refine Pre.world (St _ _ (_ :: rowE v55 3 (encI .i64) (q.M.fill b nvL.leaf nvL.l).1.1 :: nrow nvL :: Q.H r36 q54)) (fun _ h => h) ?_
        dsimp only at hm56_ hk57
        have hm56 : q54.M = (lof b (r.length + 1) nvL.leaf nvL.l) := by rw [hm56_, hqM]; exact congrArg Prod.snd (lod_fill _ _ _ _ _)
        have ht58 : (q.M.fill b nvL.leaf nvL.l).1 = (r, true) := by rw [hqM]; exact congrArg Prod.fst (lod_fill _ _ _ _ _)
        refine pull1 ?_
        refine row_eq (show _ = r from congrArg Prod.fst ht58) ?_
        refine Pre.setV (t := 102) (c := .tuple #[v55, .bool true]) rfl (by rw [congrArg Prod.snd ht58]) ?_
        refine l_q rfl (q_move rfl rfl) rfl rfl ?_
        refine l_q rfl (q_extract rfl rfl rfl) rfl rfl ?_
        refine l_q rfl (q_extract rfl rfl rfl) rfl rfl ?_
        refine l_q rfl (q_assign rfl rfl) rfl rfl ?_
        refine l_q rfl (q_assign rfl rfl) rfl rfl ?_
        refine l_nil ?_
        refine k_then ?_
        refine c_seq ?_
        refine c_region _ rfl ?_
        refine l_q rfl (q_move rfl rfl) rfl rfl ?_
        refine l_e rfl ?_
        refine e_callH [_, _, _] (qframes0 hk57) rfl rfl rfl Try.call16 rfl (fun _ _ => trivial) ?_
        rintro ⟨v59, fl60⟩ hf61
        refine Pre.world (St _ _ (_ :: _ :: _ :: rowE v59 44 FC.encA fl60 :: Q.H r36 q54)) (fun _ h => h) ?_
        dsimp only at hf61
        rw [hm56] at hf61
        refine l_q rfl (q_assign rfl rfl) rfl rfl ?_
        refine l_nil ?_
        refine k_then ?_
        refine c_seq ?_
        refine c_region _ rfl ?_
        refine l_q rfl (q_move rfl rfl) rfl rfl ?_
        refine l_q rfl (q_move rfl rfl) rfl rfl ?_
        obtain ⟨f, g, k, hfl, hfv⟩ := map_three hf61
        subst hfl
        have hfp : f.pins = ((r.length + 1 : Nat) : Int) := congrArg Vw.pins hfv
        have hfs : f.st = 2 := congrArg Vw.st hfv
        have h3f : ([f, g, k] : List FC).length = 3 := rfl
        refine Pre.setB (t := 108) (c := true) rfl (by first | rfl | exact decide_eq_true (by rw [List.take_length]; rfl) | exact decide_eq_true hfs | exact decide_eq_true (by rw [hfp, hcl1]) | (simp [hfp]; done)) ?_
        refine l_q rfl (q_move rfl rfl) rfl rfl ?_
        refine l_q rfl (q_move rfl rfl) rfl rfl ?_
        refine l_q rfl (q_sliceVL 1 rfl Try.underlying28 Try.sizeOf3 rfl (fun _ h => h.rd 1 rfl) rfl rfl (by omega)) rfl rfl ?_
        refine l_e rfl ?_
        refine e_call_00 (sameints_spec r (((t0 :: r).take (t0 :: r).length).drop 1) (by omega)) rfl rfl rfl Try.call17 rfl (fun _ h => ⟨h.rd 0 rfl, vsl_rd (h.rd 1 rfl) (lo := 1) (hi := (t0 :: r).length) (by omega) (Nat.le_refl _)⟩) ?_
        intro _ _
        refine l_q rfl (q_pick_t rfl rfl rfl) rfl rfl ?_
        refine l_q rfl (q_move rfl rfl) rfl rfl ?_
        refine Pre.setB (t := 114) (c := true) rfl (by first | rfl | exact decide_eq_true (by rw [List.take_length]; rfl) | exact decide_eq_true hfs | exact decide_eq_true (by rw [hfp, hcl1]) | (simp [hfp]; done)) ?_
        refine l_q rfl (q_move rfl rfl) rfl rfl ?_
        refine l_q rfl (q_lenV rfl Try.underlying39 rfl (fun _ h => h.rd 3 rfl)) rfl rfl ?_
        refine l_q rfl (q_eql rfl rfl rfl) rfl rfl ?_
        refine l_q rfl (q_pick_t rfl rfl rfl) rfl rfl ?_
        refine l_q rfl (q_move rfl rfl) rfl rfl ?_
        refine Pre.setB (t := 119) (c := true) rfl (by first | rfl | exact decide_eq_true (by rw [List.take_length]; rfl) | exact decide_eq_true hfs | exact decide_eq_true (by rw [hfp, hcl1]) | (simp [hfp]; done)) ?_
        refine l_q rfl (q_move rfl rfl) rfl rfl ?_
        refine l_q rfl (q_indexV 0 rfl Try.underlying39 Try.sizeOf44 rfl (fun _ h => h.rd 3 rfl) rfl rfl (by omega)) rfl rfl ?_
        refine l_q rfl (q_fieldAddr rfl Try.underlying44 rfl Try.sizeOf3 rfl rfl) rfl rfl ?_
        refine l_q rfl (q_loadV 0 2 rfl Try.isAgg3 rfl rfl (fun _ h => h.rd 3 rfl) (rfl : [f, g, k][0]? = some f) rfl) rfl rfl ?_
        refine l_q rfl (q_move rfl rfl) rfl rfl ?_
        refine l_q rfl (q_lenV rfl Try.underlying28 rfl (fun _ h => h.rd 1 rfl)) rfl rfl ?_
        refine l_q rfl (q_eql rfl rfl rfl) rfl rfl ?_
        refine l_q rfl (q_pick_t rfl rfl rfl) rfl rfl ?_
        refine l_q rfl (q_move rfl rfl) rfl rfl ?_
        refine Pre.setB (t := 128) (c := true) rfl (by first | rfl | exact decide_eq_true (by rw [List.take_length]; rfl) | exact decide_eq_true hfs | exact decide_eq_true (by rw [hfp, hcl1]) | (simp [hfp]; done)) ?_
        refine l_q rfl (q_move rfl rfl) rfl rfl ?_
        refine l_q rfl (q_indexV 0 rfl Try.underlying39 Try.sizeOf44 rfl (fun _ h => h.rd 3 rfl) rfl rfl (by omega)) rfl rfl ?_
        refine l_q rfl (q_fieldAddr rfl Try.underlying44 rfl Try.sizeOf3 rfl rfl) rfl rfl ?_
        refine l_q rfl (q_loadV 0 0 rfl Try.isAgg3 rfl rfl (fun _ h => h.rd 3 rfl) (rfl : [f, g, k][0]? = some f) rfl) rfl rfl ?_
        refine l_q rfl (q_eql rfl rfl rfl) rfl rfl ?_
        refine l_q rfl (q_pick_t rfl rfl rfl) rfl rfl ?_
        refine l_q rfl (q_move rfl rfl) rfl rfl ?_
        refine Pre.setB (t := 135) (c := true) rfl (by first | rfl | exact decide_eq_true (by rw [List.take_length]; rfl) | exact decide_eq_true hfs | exact decide_eq_true (by rw [hfp, hcl1]) | (simp [hfp]; done)) ?_
        refine l_q rfl (q_move rfl rfl) rfl rfl ?_
        refine l_e rfl ?_
        refine e_callH [_, _, _, _] (qfree hk57 ) rfl rfl rfl Try.call18 rfl (fun _ _ => trivial) ?_
        rintro _ _
        refine Pre.world (St _ _ (_ :: _ :: _ :: _ :: Q.H r36 q54)) (fun _ h => h) ?_
        refine Pre.setV (t := 137) (c := .int .i64 2) rfl (by rw [hm56]; exact congrArg _ (congrArg _ (lof_free _ _ _ _))) ?_
        refine l_q rfl (q_eql rfl rfl rfl) rfl rfl ?_
        refine l_q rfl (q_pick_t rfl rfl rfl) rfl rfl ?_
        refine l_q rfl (q_move rfl rfl) rfl rfl ?_
        refine Pre.setB (t := 140) (c := true) rfl (by first | rfl | exact decide_eq_true (by rw [List.take_length]; rfl) | exact decide_eq_true hfs | exact decide_eq_true (by rw [hfp, hcl1]) | (simp [hfp]; done)) ?_
        refine l_e rfl ?_
        refine e_call_00 (awake_spec) rfl rfl rfl Try.call15 rfl (fun _ _ => trivial) ?_
        intro _ _
        refine l_q rfl (q_pick_t rfl rfl rfl) rfl rfl ?_
        refine l_q rfl (q_assign rfl rfl) rfl rfl ?_
        refine l_nil ?_
        refine k_then ?_
        refine c_ret ?_
        refine r_one rfl rfl ?_
        exact fun _ h => ⟨(), rfl, trivial, h.nothing⟩
  · try simp only [decide_eq_true_eq, decide_eq_false_iff_not, Bool.not_eq_true', Bool.not_eq_false'] at h1i
    refine l_not rfl rfl rfl ?_
    refine l_not rfl rfl rfl ?_
    refine l_q rfl (q_pick_f rfl rfl rfl) rfl rfl ?_
    refine l_nil ?_
    refine k_then ?_
    refine c_false rfl ?_
    refine c_exit ?_
    refine k_then_exit ?_
    refine k_then_exit ?_
    refine k_block_exit ?_
    refine k_then ?_
    refine c_seq ?_
    refine c_seq ?_
    refine c_region _ rfl ?_
    refine l_q rfl (q_move rfl rfl) rfl rfl ?_
    refine l_q rfl (q_lenV rfl Try.underlying28 rfl (fun _ h => h.rd 0 rfl)) rfl rfl ?_
    refine l_q rfl (q_eql rfl rfl rfl) rfl rfl ?_
    refine l_nil ?_
    refine k_then ?_
    refine list_cases cm (fun hc => ?_) (fun t0 r hc => ?_)
    · subst hc
      refine Pre.setB (t := 85) (c := true) rfl (rfl) ?_
      refine c_true rfl ?_
      refine c_seq ?_
      refine c_region _ rfl ?_
      refine l_q rfl (q_move rfl rfl) rfl rfl ?_
      refine l_q rfl (q_move rfl rfl) rfl rfl ?_
      refine l_q rfl (q_build (nvL.c) rfl rfl (fun w => by kernel_rfl)) rfl rfl ?_
      refine row0 121 En.enc none ?_
      refine pull1 ?_
      refine Pre.world (St _ _ (_ :: nrow nvL :: _)) (fun _ h => h) ?_
      refine l_e rfl ?_
      refine e_callH [_] (qfill hqk nvL (by show 0 ≤ 1000; decide) b) rfl rfl rfl Try.call14 rfl (fun _ _ => trivial) ?_
      rintro ⟨q62, v63⟩ ⟨hm64_, _, hk65⟩
      refine Pre.world (St _ _ (_ :: rowE v63 3 (encI .i64) (q.M.fill b nvL.leaf nvL.l).1.1 :: nrow nvL :: Q.H r36 q62)) (fun _ h => h) ?_
      dsimp only at hm64_ hk65
      have hm64 : q62.M = (lod b []) := by rw [hm64_, hqM]; exact congrArg Prod.snd (lod_fill0 _ _ _)
      have ht66 : (q.M.fill b nvL.leaf nvL.l).1 = ([], false) := by rw [hqM]; exact congrArg Prod.fst (lod_fill0 _ _ _)
      refine pull1 ?_
      refine row_eq (show _ = [] from congrArg Prod.fst ht66) ?_
      refine Pre.setV (t := 90) (c := .tuple #[v63, .bool false]) rfl (by rw [congrArg Prod.snd ht66]) ?_
      refine l_q rfl (q_move rfl rfl) rfl rfl ?_
      refine l_q rfl (q_extract rfl rfl rfl) rfl rfl ?_
      refine l_q rfl (q_extract rfl rfl rfl) rfl rfl ?_
      refine l_q rfl (q_assign rfl rfl) rfl rfl ?_
      refine l_q rfl (q_assign rfl rfl) rfl rfl ?_
      refine l_nil ?_
      refine k_then ?_
      refine c_seq ?_
      refine c_region _ rfl ?_
      refine l_q rfl (q_move rfl rfl) rfl rfl ?_
      refine l_q rfl (q_not rfl rfl) rfl rfl ?_
      refine l_q rfl (q_move rfl rfl) rfl rfl ?_
      refine Pre.setB (t := 95) (c := true) rfl (rfl) ?_
      refine l_e rfl ?_
      refine e_call_00 (awake_spec) rfl rfl rfl Try.call15 rfl (fun _ _ => trivial) ?_
      intro _ _
      refine l_q rfl (q_pick_t rfl rfl rfl) rfl rfl ?_
      refine l_q rfl (q_assign rfl rfl) rfl rfl ?_
      refine l_nil ?_
      refine k_then ?_
      refine c_ret ?_
      refine k_then_ret ?_
      refine r_one rfl rfl ?_
      exact fun _ h => ⟨(), rfl, trivial, h.nothing⟩
    · subst hc
      have hcl1 : (t0 :: r).length = r.length + 1 := rfl
      refine Pre.setB (t := 85) (c := false) rfl (decide_eq_false (by omega)) ?_
      refine c_false rfl ?_
      refine c_skip ?_
      refine k_then ?_
      refine c_seq ?_
      refine c_region _ rfl ?_
      refine l_q rfl (q_move rfl rfl) rfl rfl ?_
      refine l_q rfl (q_move rfl rfl) rfl rfl ?_
      refine l_q rfl (q_build (nvL.c) rfl rfl (fun w => by kernel_rfl)) rfl rfl ?_
      refine row0 121 En.enc none ?_
      refine pull1 ?_
      refine Pre.world (St _ _ (_ :: nrow nvL :: _)) (fun _ h => h) ?_
      refine l_e rfl ?_
      refine e_callH [_] (qfill hqk nvL (by show 0 ≤ 1000; decide) b) rfl rfl rfl Try.call14 rfl (fun _ _ => trivial) ?_
      rintro ⟨q67, v68⟩ ⟨hm69_, _, hk70⟩
      refine Pre.world (St _ _ (_ :: rowE v68 3 (encI .i64) (q.M.fill b nvL.leaf nvL.l).1.1 :: nrow nvL :: Q.H r36 q67)) (fun _ h => h) ?_
      dsimp only at hm69_ hk70
      have hm69 : q67.M = (lof b (r.length + 1) nvL.leaf nvL.l) := by rw [hm69_, hqM]; exact congrArg Prod.snd (lod_fill _ _ _ _ _)
      have ht71 : (q.M.fill b nvL.leaf nvL.l).1 = (r, true) := by rw [hqM]; exact congrArg Prod.fst (lod_fill _ _ _ _ _)
      refine pull1 ?_
      refine row_eq (show _ = r from congrArg Prod.fst ht71) ?_
      refine Pre.setV (t := 102) (c := .tuple #[v68, .bool true]) rfl (by rw [congrArg Prod.snd ht71]) ?_
      refine l_q rfl (q_move rfl rfl) rfl rfl ?_
      refine l_q rfl (q_extract rfl rfl rfl) rfl rfl ?_
      refine l_q rfl (q_extract rfl rfl rfl) rfl rfl ?_
      refine l_q rfl (q_assign rfl rfl) rfl rfl ?_
      refine l_q rfl (q_assign rfl rfl) rfl rfl ?_
      refine l_nil ?_
      refine k_then ?_
      refine c_seq ?_
      refine c_region _ rfl ?_
      refine l_q rfl (q_move rfl rfl) rfl rfl ?_
      refine l_e rfl ?_
      refine e_callH [_, _, _] (qframes0 hk70) rfl rfl rfl Try.call16 rfl (fun _ _ => trivial) ?_
      rintro ⟨v72, fl73⟩ hf74
      refine Pre.world (St _ _ (_ :: _ :: _ :: rowE v72 44 FC.encA fl73 :: Q.H r36 q67)) (fun _ h => h) ?_
      dsimp only at hf74
      rw [hm69] at hf74
      refine l_q rfl (q_assign rfl rfl) rfl rfl ?_
      refine l_nil ?_
      refine k_then ?_
      refine c_seq ?_
      refine c_region _ rfl ?_
      refine l_q rfl (q_move rfl rfl) rfl rfl ?_
      refine l_q rfl (q_move rfl rfl) rfl rfl ?_
      obtain ⟨f, g, k, hfl, hfv⟩ := map_three hf74
      subst hfl
      have hfp : f.pins = ((r.length + 1 : Nat) : Int) := congrArg Vw.pins hfv
      have hfs : f.st = 2 := congrArg Vw.st hfv
      have h3f : ([f, g, k] : List FC).length = 3 := rfl
      refine Pre.setB (t := 108) (c := true) rfl (by first | rfl | exact decide_eq_true (by rw [List.take_length]; rfl) | exact decide_eq_true hfs | exact decide_eq_true (by rw [hfp, hcl1]) | (simp [hfp]; done)) ?_
      refine l_q rfl (q_move rfl rfl) rfl rfl ?_
      refine l_q rfl (q_move rfl rfl) rfl rfl ?_
      refine l_q rfl (q_sliceVL 1 rfl Try.underlying28 Try.sizeOf3 rfl (fun _ h => h.rd 1 rfl) rfl rfl (by omega)) rfl rfl ?_
      refine l_e rfl ?_
      refine e_call_00 (sameints_spec r (((t0 :: r).take (t0 :: r).length).drop 1) (by omega)) rfl rfl rfl Try.call17 rfl (fun _ h => ⟨h.rd 0 rfl, vsl_rd (h.rd 1 rfl) (lo := 1) (hi := (t0 :: r).length) (by omega) (Nat.le_refl _)⟩) ?_
      intro _ _
      refine l_q rfl (q_pick_t rfl rfl rfl) rfl rfl ?_
      refine l_q rfl (q_move rfl rfl) rfl rfl ?_
      refine Pre.setB (t := 114) (c := true) rfl (by first | rfl | exact decide_eq_true (by rw [List.take_length]; rfl) | exact decide_eq_true hfs | exact decide_eq_true (by rw [hfp, hcl1]) | (simp [hfp]; done)) ?_
      refine l_q rfl (q_move rfl rfl) rfl rfl ?_
      refine l_q rfl (q_lenV rfl Try.underlying39 rfl (fun _ h => h.rd 3 rfl)) rfl rfl ?_
      refine l_q rfl (q_eql rfl rfl rfl) rfl rfl ?_
      refine l_q rfl (q_pick_t rfl rfl rfl) rfl rfl ?_
      refine l_q rfl (q_move rfl rfl) rfl rfl ?_
      refine Pre.setB (t := 119) (c := true) rfl (by first | rfl | exact decide_eq_true (by rw [List.take_length]; rfl) | exact decide_eq_true hfs | exact decide_eq_true (by rw [hfp, hcl1]) | (simp [hfp]; done)) ?_
      refine l_q rfl (q_move rfl rfl) rfl rfl ?_
      refine l_q rfl (q_indexV 0 rfl Try.underlying39 Try.sizeOf44 rfl (fun _ h => h.rd 3 rfl) rfl rfl (by omega)) rfl rfl ?_
      refine l_q rfl (q_fieldAddr rfl Try.underlying44 rfl Try.sizeOf3 rfl rfl) rfl rfl ?_
      refine l_q rfl (q_loadV 0 2 rfl Try.isAgg3 rfl rfl (fun _ h => h.rd 3 rfl) (rfl : [f, g, k][0]? = some f) rfl) rfl rfl ?_
      refine l_q rfl (q_move rfl rfl) rfl rfl ?_
      refine l_q rfl (q_lenV rfl Try.underlying28 rfl (fun _ h => h.rd 1 rfl)) rfl rfl ?_
      refine l_q rfl (q_eql rfl rfl rfl) rfl rfl ?_
      refine l_q rfl (q_pick_t rfl rfl rfl) rfl rfl ?_
      refine l_q rfl (q_move rfl rfl) rfl rfl ?_
      refine Pre.setB (t := 128) (c := true) rfl (by first | rfl | exact decide_eq_true (by rw [List.take_length]; rfl) | exact decide_eq_true hfs | exact decide_eq_true (by rw [hfp, hcl1]) | (simp [hfp]; done)) ?_
      refine l_q rfl (q_move rfl rfl) rfl rfl ?_
      refine l_q rfl (q_indexV 0 rfl Try.underlying39 Try.sizeOf44 rfl (fun _ h => h.rd 3 rfl) rfl rfl (by omega)) rfl rfl ?_
      refine l_q rfl (q_fieldAddr rfl Try.underlying44 rfl Try.sizeOf3 rfl rfl) rfl rfl ?_
      refine l_q rfl (q_loadV 0 0 rfl Try.isAgg3 rfl rfl (fun _ h => h.rd 3 rfl) (rfl : [f, g, k][0]? = some f) rfl) rfl rfl ?_
      refine l_q rfl (q_eql rfl rfl rfl) rfl rfl ?_
      refine l_q rfl (q_pick_t rfl rfl rfl) rfl rfl ?_
      refine l_q rfl (q_move rfl rfl) rfl rfl ?_
      refine Pre.setB (t := 135) (c := true) rfl (by first | rfl | exact decide_eq_true (by rw [List.take_length]; rfl) | exact decide_eq_true hfs | exact decide_eq_true (by rw [hfp, hcl1]) | (simp [hfp]; done)) ?_
      refine l_q rfl (q_move rfl rfl) rfl rfl ?_
      refine l_e rfl ?_
      refine e_callH [_, _, _, _] (qfree hk70 ) rfl rfl rfl Try.call18 rfl (fun _ _ => trivial) ?_
      rintro _ _
      refine Pre.world (St _ _ (_ :: _ :: _ :: _ :: Q.H r36 q67)) (fun _ h => h) ?_
      refine Pre.setV (t := 137) (c := .int .i64 2) rfl (by rw [hm69]; exact congrArg _ (congrArg _ (lof_free _ _ _ _))) ?_
      refine l_q rfl (q_eql rfl rfl rfl) rfl rfl ?_
      refine l_q rfl (q_pick_t rfl rfl rfl) rfl rfl ?_
      refine l_q rfl (q_move rfl rfl) rfl rfl ?_
      refine Pre.setB (t := 140) (c := true) rfl (by first | rfl | exact decide_eq_true (by rw [List.take_length]; rfl) | exact decide_eq_true hfs | exact decide_eq_true (by rw [hfp, hcl1]) | (simp [hfp]; done)) ?_
      refine l_e rfl ?_
      refine e_call_00 (awake_spec) rfl rfl rfl Try.call15 rfl (fun _ _ => trivial) ?_
      intro _ _
      refine l_q rfl (q_pick_t rfl rfl rfl) rfl rfl ?_
      refine l_q rfl (q_assign rfl rfl) rfl rfl ?_
      refine l_nil ?_
      refine k_then ?_
      refine c_ret ?_
      refine r_one rfl rfl ?_
      exact fun _ h => ⟨(), rfl, trivial, h.nothing⟩
theorem cacheLoads_walk (w : World) (a0 : Int) (w0 : (Lit.int .i64 a0).wf = true) (A1 : Option Addr) (c1 : Nat) (z1 : List Int) (rd1 : Rd w w.heap.size A1 (z1.map (.int .u8))) (l1 : z1.length ≤ c1) (m1 : c1 ≤ maxLen) (w1 : ∀ z ∈ z1, (Lit.int .u8 z).wf = true) :
    Calls Try.prog 3 #[.int .i64 a0, .slice A1 z1.length c1] w fun e w' => e = .returned (.bool true) ∧ Below w.heap.size w w' := by
  rw [← flat_u8] at rd1
  exact con_walk (loads_spec a0 z1 w1) (rdv_of rd1 l1)
end Go.Proofs.Ytpfbagkjhchojaa
