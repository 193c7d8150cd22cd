/- the reference cache: Give, Name, New, Evict -/
import Derived.Test.YtpfbagkjhchojaaU
set_option linter.unusedVariables false
set_option linter.unusedSimpArgs false
namespace Go.Proofs.Ytpfbagkjhchojaa
open Go.Sep Go.RowKit

theorem NIn.zeroR (G : List Ent) (n : Nat) : NIn G (List.replicate n fZ) := fun f hf => by rw [(List.mem_replicate.1 hf).2]; exact .inl ⟨rfl, rfl⟩
theorem isC_st {t : Int} {y : Vw} (h : ¬ y.st = 3) : isC t y = false := by unfold isC; rw [decide_eq_false h]; rfl
theorem isC_own {t : Int} {f : FC} (h : f.st = 3) (h2 : ¬ f.own = t) : isC t (vw f) = false := by
  unfold isC vw; simp only; rw [if_pos h, decide_eq_false h2, Bool.and_false]
theorem isC_yes {t : Int} {f : FC} (h : f.st = 3) (h2 : f.own = t) : isC t (vw f) = true := by
  unfold isC vw; simp only; rw [if_pos h, decide_eq_true h2, decide_eq_true h]; rfl
theorem gvF_id {R : RS} {M : Mo} {B : Nat} (hR : RelR R M) (hO : M.Ok B) {t : Int} (h : tkB t = false) : ∀ f ∈ R.fl, gvF t f = f := fun f hf => by
  have hm : vw f ∈ M.fr := by rw [← hR]; exact List.mem_map.2 ⟨f, hf, rfl⟩
  have h0 := (claims_zero hO h).1
  unfold Mo.claims at h0
  have := List.countP_eq_zero.1 h0 _ hm
  unfold gvF
  rw [if_neg this]
theorem gv_part {R : RS} {M : Mo} {B : Nat} (hR : RelR R M) (hO : M.Ok B) {t : Int} (h : tkB t = false) (i : Nat) : (R.fl.take i).map (gvF t) ++ R.fl.drop i = R.fl := by
  have : (R.fl.take i).map (gvF t) = R.fl.take i := by
    conv => rhs; rw [← List.map_id (R.fl.take i)]
    exact List.map_congr_left (fun f hf => gvF_id hR hO h f (List.mem_of_mem_take hf))
  rw [this, List.take_append_drop]
theorem claims_part {M : Mo} {B : Nat} (hO : M.Ok B) {t : Int} (h : tkB t = false) (i : Nat) : (((M.fr.take i).countP (isC t) : Nat) : Int) = (M.claims t : Int) := by
  have h0 := (claims_zero hO h).1
  have h1 : M.fr.countP (isC t) = 0 := h0
  rw [h0, List.countP_eq_zero.2 (fun f hf => List.countP_eq_zero.1 h1 f (List.mem_of_mem_take hf))]
theorem map_same {α : Type} {g : α → α} {l : List α} {i : Nat} {f : α} (h : l[i]? = some f) (hg : g f = f) : (l.take (i + 1)).map g ++ l.drop (i + 1) = (l.take i).map g ++ l.drop i := by
  have hi := (List.getElem?_eq_some_iff.1 h).1
  have hd : l.drop i = f :: l.drop (i + 1) := by
    rw [List.drop_eq_getElem_cons hi]; congr 1; exact (List.getElem?_eq_some_iff.1 h).2
  rw [hd, List.take_add_one, h, List.map_append]
  simp [hg]
theorem rgive {R : RS} {M : Mo} (hR : RelR R M) (t : Int) : RelR { R with fl := R.fl.map (gvF t) } (M.give t) := by
  show (R.fl.map (gvF t)).map vw = _
  rw [gvF_map, hR]; rfl

set_option maxRecDepth 100000 in
set_option maxHeartbeats 1000000 in
theorem rgive_spec {br : Nat} {R : RS} {M : Mo} {B : Nat} (hR : RelR R M) (hO : M.Ok B) (t : Int) : Con Try.prog 55 [.pointer (some ⟨br, 0, none⟩), .int .i64 t] (fun _ => True) (R.H br M) (fun R' : RS => .int .i64 (M.claims t : Int)) (fun R' => RelR R' (M.give t) ∧ ∀ G, NIn G R.fl → NIn G R'.fl) (fun R' => R'.H br (M.give t)) := by
  intro w hE hH
  refine enter (n := 51) (vs := [.pointer (some ⟨br, 0, none⟩), .int .i64 t]) (St w (dom (R.H br M)) (cellsE br 100 (RS.cells R M) :: rowE (R).vF 102 FC.encR (R).fl :: rowE (R).vL 138 encP (Mo.line M) :: rowE (R).vO 138 encP (Mo.loads M) :: [])) Try.func55 rfl rfl rfl (St.init hH) ?_
  refine c_seq ?_
  have hfl := hR.len
  have h64 := hO.n64
  have hB9 := hO.B9
  have hlB := hO.lB
  have hlL := hO.ll
  refine c_region _ rfl ?_
  refine l_q rfl (q_assign rfl rfl) rfl rfl ?_
  refine l_nil ?_
  refine k_then ?_
  refine c_seq ?_
  refine c_region _ rfl ?_
  refine l_q rfl (q_assign rfl rfl) rfl rfl ?_
  refine l_nil ?_
  refine k_then ?_
  refine c_seq ?_
  refine c_seq ?_
  refine c_region _ rfl ?_
  refine l_q rfl (q_assign rfl rfl) rfl rfl ?_
  refine l_nil ?_
  refine k_then ?_
  refine c_block ?_
  refine c_loop1 (fun (i : Nat) => [(0, .pointer (some ⟨br, 0, none⟩)), (1, .int .i64 t), (5, .int .i64 (((M.fr.take i).countP (isC t)) : Int)), (6, .int .i64 (i : Int))]) (fun (i : Nat) => St w (dom (R.H br M)) (cellsE br 100 (RS.cells R M) :: rowE (R).vF 102 FC.encR ((R.fl.take i).map (gvF t) ++ R.fl.drop i) :: rowE (R).vL 138 encP (Mo.line M) :: rowE (R).vO 138 encP (Mo.loads M) :: [])) (fun (i : Nat) => i ≤ R.fl.length) (fun (i : Nat) => R.fl.length - i) (0) (Nat.zero_le _) (Sub.cons rfl (Sub.cons rfl (Sub.cons rfl (Sub.cons rfl (Sub.nil))))) (fun _ h => h) ?_
  intro i hi
  refine c_seq ?_
  refine c_seq ?_
  have hmx := map_len (gvF t) R.fl i
  have hcl : ((M.fr.take i).countP (isC t)) ≤ (M.fr.take i).length := List.countP_le_length
  have htl := List.length_take_le i M.fr
  refine c_region _ rfl ?_
  refine l_q rfl (q_move rfl rfl) rfl rfl ?_
  refine l_q rfl (q_move rfl rfl) rfl rfl ?_
  refine l_q rfl (q_nilCheck rfl rfl) rfl rfl ?_
  refine l_q rfl (q_fieldAddr rfl Try.underlying100 rfl Try.sizeOf97 rfl rfl) rfl rfl ?_
  refine l_q rfl (q_loadC rfl Try.isAgg97 rfl (fun _ h => h.at 0 rfl) rfl) rfl rfl ?_
  refine l_q rfl (q_lenV rfl Try.underlying97 rfl (fun _ h => h.rd 1 rfl)) rfl rfl ?_
  refine l_q rfl (q_lss rfl rfl rfl) rfl rfl ?_
  refine l_q rfl (q_move rfl rfl) rfl rfl ?_
  refine Pre.caseB 14 rfl (fun h1 => ?_) (fun h1 => ?_)
  · try simp only [decide_eq_true_eq, decide_eq_false_iff_not, Bool.not_eq_true', Bool.not_eq_false'] at h1
    refine l_q rfl (q_move rfl rfl) rfl rfl ?_
    refine l_e rfl ?_
    refine e_call_00 (rtask_spec t) rfl rfl rfl Try.call84 rfl (fun _ _ => trivial) ?_
    intro _ _
    refine l_q rfl (q_pick_t rfl rfl rfl) rfl rfl ?_
    refine l_nil ?_
    refine k_then ?_
    refine Pre.caseB 17 rfl (fun htk => ?_) (fun htk => ?_)
    · try simp only [Bool.not_eq_true', Bool.not_eq_false'] at htk
      obtain ⟨f, hfi⟩ : ∃ f, R.fl[i]? = some f := ⟨_, List.getElem?_eq_getElem (by omega)⟩
      have hv := hR.vw_at hfi
      have hmg := map_get (g := gvF t) hfi
      have hms := map_step (g := gvF t) hfi
      have hsm := map_same (g := gvF t) hfi
      have hcs := countP_snoc (p := isC t) hv
      refine c_true rfl ?_
      refine c_skip ?_
      refine k_then ?_
      refine c_seq ?_
      refine c_block ?_
      refine c_seq ?_
      refine c_region _ rfl ?_
      refine l_q rfl (q_move rfl rfl) rfl rfl ?_
      refine l_q rfl (q_nilCheck rfl rfl) rfl rfl ?_
      refine l_q rfl (q_fieldAddr rfl Try.underlying100 rfl Try.sizeOf97 rfl rfl) rfl rfl ?_
      refine l_q rfl (q_loadC rfl Try.isAgg97 rfl (fun _ h => h.at 0 rfl) rfl) rfl rfl ?_
      refine l_q rfl (q_move rfl rfl) rfl rfl ?_
      refine l_q rfl (q_indexV i rfl Try.underlying97 Try.sizeOf102 rfl (fun _ h => h.rd 1 rfl) rfl rfl (by omega)) rfl rfl ?_
      refine l_q rfl (q_fieldAddr rfl Try.underlying102 rfl Try.sizeOf3 rfl rfl) rfl rfl ?_
      refine l_q rfl (q_loadV i 0 rfl Try.isAgg3 rfl rfl (fun _ h => h.rd 1 rfl) hmg rfl) rfl rfl ?_
      refine l_q rfl (q_eql rfl rfl rfl) rfl rfl ?_
      refine l_q rfl (q_move rfl rfl) rfl rfl ?_
      refine Pre.caseB 29 rfl (fun h2 => ?_) (fun h2 => ?_)
      · try simp only [decide_eq_true_eq, decide_eq_false_iff_not, Bool.not_eq_true', Bool.not_eq_false'] at h2
        refine l_q rfl (q_move rfl rfl) rfl rfl ?_
        refine l_q rfl (q_nilCheck rfl rfl) rfl rfl ?_
        refine l_q rfl (q_fieldAddr rfl Try.underlying100 rfl Try.sizeOf97 rfl rfl) rfl rfl ?_
        refine l_q rfl (q_loadC rfl Try.isAgg97 rfl (fun _ h => h.at 0 rfl) rfl) rfl rfl ?_
        refine l_q rfl (q_move rfl rfl) rfl rfl ?_
        refine l_q rfl (q_indexV i rfl Try.underlying97 Try.sizeOf102 rfl (fun _ h => h.rd 1 rfl) rfl rfl (by omega)) rfl rfl ?_
        refine l_q rfl (q_fieldAddr rfl Try.underlying102 rfl Try.sizeOf3 rfl rfl) rfl rfl ?_
        refine l_q rfl (q_loadV i 10 rfl Try.isAgg3 rfl rfl (fun _ h => h.rd 1 rfl) hmg rfl) rfl rfl ?_
        refine l_q rfl (q_move rfl rfl) rfl rfl ?_
        refine l_q rfl (q_eql rfl rfl rfl) rfl rfl ?_
        refine l_q rfl (q_pick_t rfl rfl rfl) rfl rfl ?_
        refine l_nil ?_
        refine k_then ?_
        refine Pre.caseB 40 rfl (fun h3 => ?_) (fun h3 => ?_)
        · try simp only [decide_eq_true_eq, decide_eq_false_iff_not, Bool.not_eq_true', Bool.not_eq_false'] at h3
          have hc1 : isC t (vw f) = true := isC_yes h2 h3
          have hg1 : gvF t f = fZ := by unfold gvF; rw [hc1]; rfl
          rw [hg1] at hms
          refine c_true rfl ?_
          refine c_seq ?_
          refine c_region _ rfl ?_
          refine l_q rfl (q_move rfl rfl) rfl rfl ?_
          refine l_q rfl (q_nilCheck rfl rfl) rfl rfl ?_
          refine l_q rfl (q_fieldAddr rfl Try.underlying100 rfl Try.sizeOf97 rfl rfl) rfl rfl ?_
          refine l_q rfl (q_loadC rfl Try.isAgg97 rfl (fun _ h => h.at 0 rfl) rfl) rfl rfl ?_
          refine l_q rfl (q_move rfl rfl) rfl rfl ?_
          refine l_q rfl (q_build (fZ.cR) rfl rfl (fun w => by kernel_rfl)) rfl rfl ?_
          refine l_q rfl (q_indexV i rfl Try.underlying97 Try.sizeOf102 rfl (fun _ h => h.rd 1 rfl) rfl rfl (by omega)) rfl rfl ?_
          refine pull1 ?_
          refine l_e rfl ?_
          refine e_storeVAgg i fZ rfl rfl Try.sizeOf102 rfl rfl rfl rfl (by omega) ?_
          refine row_eq hms ?_
          refine l_nil ?_
          refine k_then ?_
          refine c_region _ rfl ?_
          refine l_q rfl (q_move rfl rfl) rfl rfl ?_
          refine l_q rfl (q_inc rfl rfl rfl (by omega)) rfl rfl ?_
          refine l_q rfl (q_assign rfl rfl) rfl rfl ?_
          refine l_nil ?_
          refine k_block ?_
          refine k_then ?_
          refine c_region _ rfl ?_
          refine l_q rfl (q_move rfl rfl) rfl rfl ?_
          refine l_q rfl (q_inc rfl rfl rfl (by omega)) rfl rfl ?_
          refine l_q rfl (q_assign rfl rfl) rfl rfl ?_
          refine l_nil ?_
          refine pull3 ?_
          refine pull3 ?_
          refine pull2 ?_
          refine pull3 ?_
          exact k_round (i + 1) (by omega) (by omega) (Sub.cons rfl (Sub.cons rfl (Sub.consE rfl (by rw [hcs, hc1]; rfl) (Sub.cons rfl Sub.nil)))) (fun _ h => h)
        · try simp only [decide_eq_true_eq, decide_eq_false_iff_not, Bool.not_eq_true', Bool.not_eq_false'] at h3
          have hc0 : isC t (vw f) = false := by exact isC_own h2 h3
          have hg0 : gvF t f = f := by unfold gvF; rw [hc0]; rfl
          refine c_false rfl ?_
          refine c_skip ?_
          refine k_block ?_
          refine k_then ?_
          refine c_region _ rfl ?_
          refine l_q rfl (q_move rfl rfl) rfl rfl ?_
          refine l_q rfl (q_inc rfl rfl rfl (by omega)) rfl rfl ?_
          refine l_q rfl (q_assign rfl rfl) rfl rfl ?_
          refine l_nil ?_
          refine pull3 ?_
          refine pull3 ?_
          refine pull3 ?_
          refine pull3 ?_
          exact k_round (i + 1) (by omega) (by omega) (Sub.cons rfl (Sub.cons rfl (Sub.consE rfl (by rw [hcs, hc0]; rfl) (Sub.cons rfl Sub.nil)))) (fun _ h => by rw [hsm hg0]; exact h)
      · try simp only [decide_eq_true_eq, decide_eq_false_iff_not, Bool.not_eq_true', Bool.not_eq_false'] at h2
        have hc0 : isC t (vw f) = false := by exact isC_st (show ¬ (vw f).st = 3 from h2)
        have hg0 : gvF t f = f := by unfold gvF; rw [hc0]; rfl
        refine l_not rfl rfl rfl ?_
        refine l_not rfl rfl rfl ?_
        refine l_not rfl rfl rfl ?_
        refine l_not rfl rfl rfl ?_
        refine l_not rfl rfl rfl ?_
        refine l_not rfl rfl rfl ?_
        refine l_not rfl rfl rfl ?_
        refine l_not rfl rfl rfl ?_
        refine l_not rfl rfl rfl ?_
        refine l_not rfl rfl rfl ?_
        refine l_q rfl (q_pick_f rfl rfl rfl) rfl rfl ?_
        refine l_nil ?_
        refine k_then ?_
        refine c_false rfl ?_
        refine c_skip ?_
        refine k_block ?_
        refine k_then ?_
        refine c_region _ rfl ?_
        refine l_q rfl (q_move rfl rfl) rfl rfl ?_
        refine l_q rfl (q_inc rfl rfl rfl (by omega)) rfl rfl ?_
        refine l_q rfl (q_assign rfl rfl) rfl rfl ?_
        refine l_nil ?_
        refine pull3 ?_
        refine pull3 ?_
        refine pull3 ?_
        refine pull3 ?_
        exact k_round (i + 1) (by omega) (by omega) (Sub.cons rfl (Sub.cons rfl (Sub.consE rfl (by rw [hcs, hc0]; rfl) (Sub.cons rfl Sub.nil)))) (fun _ h => by rw [hsm hg0]; exact h)
    · try simp only [Bool.not_eq_true', Bool.not_eq_false'] at htk
      refine c_false rfl ?_
      refine c_exit ?_
      refine k_then_exit ?_
      refine k_then_exit ?_
      refine k_block_exit ?_
      refine k_then ?_
      refine c_seq ?_
      refine c_region _ rfl ?_
      refine l_q rfl (q_move rfl rfl) rfl rfl ?_
      refine l_q rfl (q_assign rfl rfl) rfl rfl ?_
      refine l_nil ?_
      refine k_then ?_
      refine c_ret ?_
      refine r_one rfl rfl ?_
      exact fun _ h => ⟨R, congrArg (fun z => Ending.returned (Value.int .i64 z)) (claims_part hO htk i), ⟨by rw [(claims_zero hO htk).2]; exact hR, fun _ h => h⟩, by rw [(claims_zero hO htk).2]; rw [gv_part hR hO htk i] at h; exact h⟩
  · try simp only [decide_eq_true_eq, decide_eq_false_iff_not, Bool.not_eq_true', Bool.not_eq_false'] at h1
    refine l_not rfl rfl rfl ?_
    refine l_not rfl rfl rfl ?_
    refine l_q rfl (q_pick_f rfl rfl rfl) rfl rfl ?_
    refine l_nil ?_
    refine k_then ?_
    refine c_false rfl ?_
    refine c_exit ?_
    refine k_then_exit ?_
    refine k_then_exit ?_
    refine k_block_exit ?_
    refine k_then ?_
    refine c_seq ?_
    refine c_region _ rfl ?_
    refine l_q rfl (q_move rfl rfl) rfl rfl ?_
    refine l_q rfl (q_assign rfl rfl) rfl rfl ?_
    refine l_nil ?_
    refine k_then ?_
    refine c_ret ?_
    refine r_one rfl rfl ?_
    exact fun _ h => ⟨{ R with fl := R.fl.map (gvF t) }, congrArg (fun z => Ending.returned (Value.int .i64 z)) (by rw [List.take_of_length_le (by omega)]; rfl), ⟨rgive hR t, fun _ h => h.gv t⟩, by rw [List.take_of_length_le (by omega), List.drop_eq_nil_of_le (by omega), List.append_nil] at h; exact h⟩
set_option maxRecDepth 100000 in
set_option maxHeartbeats 1000000 in
theorem rname_spec {br : Nat} {R : RS} {M : Mo} {B : Nat} (hR : RelR R M) (hO : M.Ok B) (t b : Int) (nv : NV) : Con Try.prog 56 [.pointer (some ⟨br, 0, none⟩), .int .i64 t, .int .i64 b, .agg nv.c.toArray] (fun _ => True) (R.H br M) (fun R' : RS => .bool (M.name t b nv.leaf nv.l).1) (fun R' => RelR R' (M.name t b nv.leaf nv.l).2 ∧ ∀ G, ((nv.e = sv0 ∧ nv.l = []) ∨ nrow nv ∈ G) → NIn G R.fl → NIn G R'.fl) (fun R' => R'.H br (M.name t b nv.leaf nv.l).2) := by
  intro w hE hH
  refine enter (n := 63) (vs := [.pointer (some ⟨br, 0, none⟩), .int .i64 t, .int .i64 b, .agg nv.c.toArray]) (St w (dom (R.H br M)) (cellsE br 100 (RS.cells R M) :: rowE (R).vF 102 FC.encR (R).fl :: rowE (R).vL 138 encP (Mo.line M) :: rowE (R).vO 138 encP (Mo.loads M) :: [])) Try.func56 rfl rfl rfl (St.init hH) ?_
  refine c_seq ?_
  have hfl := hR.len
  have h64 := hO.n64
  have hB9 := hO.B9
  have hlB := hO.lB
  have hlL := hO.ll
  refine c_region _ rfl ?_
  refine l_e rfl ?_
  refine e_box rfl rfl rfl rfl ?_
  intro bn
  refine cells_eq (show _ = nv.c from rfl) ?_
  refine l_q rfl (q_assign rfl rfl) rfl rfl ?_
  refine l_nil ?_
  refine k_then ?_
  refine c_seq ?_
  refine c_seq ?_
  refine c_region _ rfl ?_
  refine l_q rfl (q_move rfl rfl) rfl rfl ?_
  refine l_e rfl ?_
  refine e_call_00 (rtask_spec t) rfl rfl rfl Try.call84 rfl (fun _ _ => trivial) ?_
  intro _ _
  refine l_q rfl (q_not rfl rfl) rfl rfl ?_
  refine l_q rfl (q_move rfl rfl) rfl rfl ?_
  refine Pre.caseB 13 rfl (fun htk => ?_) (fun htk => ?_)
  · try simp only [Bool.not_eq_true', Bool.not_eq_false'] at htk
    have hu := name_no2 (M := M) (t := t) (b := b) nv.leaf nv.l (first_none hO htk)
    refine l_not rfl rfl rfl ?_
    refine l_not rfl rfl rfl ?_
    refine l_not rfl rfl rfl ?_
    refine l_q rfl (q_pick_t rfl rfl rfl) rfl rfl ?_
    refine l_q rfl (q_move rfl rfl) rfl rfl ?_
    refine l_not rfl rfl rfl ?_
    refine l_not rfl rfl rfl ?_
    refine l_not rfl rfl rfl ?_
    refine l_not rfl rfl rfl ?_
    refine l_q rfl (q_pick_t rfl rfl rfl) rfl rfl ?_
    refine l_nil ?_
    refine k_then ?_
    refine c_true rfl ?_
    refine c_seq ?_
    refine c_region _ rfl ?_
    refine l_q rfl (q_assign rfl rfl) rfl rfl ?_
    refine l_nil ?_
    refine k_then ?_
    refine c_ret ?_
    refine k_then_ret ?_
    refine drop0 ?_
    refine r_one rfl rfl ?_
    exact fun _ h => ⟨R, by rw [hu], ⟨by rw [hu]; exact hR, fun _ _ h => h⟩, by rw [hu]; exact h⟩
  · try simp only [Bool.not_eq_true', Bool.not_eq_false'] at htk
    refine l_q rfl (q_move rfl rfl) rfl rfl ?_
    refine l_e rfl ?_
    refine e_call_00 (rblock_spec b) rfl rfl rfl Try.call85 rfl (fun _ _ => trivial) ?_
    intro _ _
    refine l_q rfl (q_not rfl rfl) rfl rfl ?_
    refine l_q rfl (q_pick_f rfl rfl rfl) rfl rfl ?_
    refine l_q rfl (q_move rfl rfl) rfl rfl ?_
    refine Pre.caseB 18 rfl (fun hb => ?_) (fun hb => ?_)
    · try simp only [Bool.not_eq_true', Bool.not_eq_false'] at hb
      have hu := name_no1 (M := M) (t := t) (b := b) nv.leaf nv.l (by rw [hb]; rfl)
      refine l_not rfl rfl rfl ?_
      refine l_not rfl rfl rfl ?_
      refine l_not rfl rfl rfl ?_
      refine l_not rfl rfl rfl ?_
      refine l_q rfl (q_pick_t rfl rfl rfl) rfl rfl ?_
      refine l_nil ?_
      refine k_then ?_
      refine c_true rfl ?_
      refine c_seq ?_
      refine c_region _ rfl ?_
      refine l_q rfl (q_assign rfl rfl) rfl rfl ?_
      refine l_nil ?_
      refine k_then ?_
      refine c_ret ?_
      refine k_then_ret ?_
      refine drop0 ?_
      refine r_one rfl rfl ?_
      exact fun _ h => ⟨R, by rw [hu], ⟨by rw [hu]; exact hR, fun _ _ h => h⟩, by rw [hu]; exact h⟩
    · try simp only [Bool.not_eq_true', Bool.not_eq_false'] at hb
      refine l_q rfl (q_move rfl rfl) rfl rfl ?_
      refine l_q rfl (q_move rfl rfl) rfl rfl ?_
      refine l_e rfl ?_
      refine e_call_00 (rfind_spec hR hO b) rfl rfl rfl Try.call87 rfl (fun _ h => RC.ofm (R := R) (M := M) h (fun e he => List.mem_cons_of_mem _ (he))) ?_
      intro _ _
      refine l_q rfl (q_geq rfl rfl rfl) rfl rfl ?_
      refine l_q rfl (q_pick_f rfl rfl rfl) rfl rfl ?_
      refine l_nil ?_
      refine k_then ?_
      refine Pre.caseB 23 rfl (fun hp => ?_) (fun hp => ?_)
      · rw [io_ge] at hp
        have hu := name_no1 (M := M) (t := t) (b := b) nv.leaf nv.l (by rw [← Option.not_isSome, hp, Bool.not_true, Bool.and_false])
        refine c_true rfl ?_
        refine c_seq ?_
        refine c_region _ rfl ?_
        refine l_q rfl (q_assign rfl rfl) rfl rfl ?_
        refine l_nil ?_
        refine k_then ?_
        refine c_ret ?_
        refine k_then_ret ?_
        refine drop0 ?_
        refine r_one rfl rfl ?_
        exact fun _ h => ⟨R, by rw [hu], ⟨by rw [hu]; exact hR, fun _ _ h => h⟩, by rw [hu]; exact h⟩
      · rw [io_ge] at hp
        have hfn : M.find b = none := by cases h : M.find b with
          | none => rfl
          | some _ => rw [h] at hp; cases hp
        have hbf : (bkB b && (M.find b).isNone) = true := by rw [hb, hfn]; rfl
        refine c_false rfl ?_
        refine c_skip ?_
        refine k_then ?_
        refine c_seq ?_
        refine c_seq ?_
        refine c_region _ rfl ?_
        refine l_q rfl (q_assign rfl rfl) rfl rfl ?_
        refine l_nil ?_
        refine k_then ?_
        refine c_block ?_
        refine c_loop1 (fun (i : Nat) => [(0, .pointer (some ⟨br, 0, none⟩)), (1, .int .i64 t), (2, .int .i64 b), (7, .pointer (some ⟨bn, 0, none⟩)), (9, .int .i64 (i : Int))]) (fun (i : Nat) => St w (dom (R.H br M)) (cellsE bn 37 nv.c :: cellsE br 100 (RS.cells R M) :: rowE (R).vF 102 FC.encR (R).fl :: rowE (R).vL 138 encP (Mo.line M) :: rowE (R).vO 138 encP (Mo.loads M) :: [])) (fun (i : Nat) => i ≤ R.fl.length ∧ ∀ z ∈ M.fr.take i, isC t z = false) (fun (i : Nat) => R.fl.length - i) (0) ⟨Nat.zero_le _, by simp⟩ (Sub.cons rfl (Sub.cons rfl (Sub.cons rfl (Sub.cons rfl (Sub.cons rfl (Sub.nil)))))) (fun _ h => h) ?_
        intro i hp2
        refine c_seq ?_
        refine c_seq ?_
        obtain ⟨hi, hno⟩ := hp2
        refine c_region _ rfl ?_
        refine l_q rfl (q_move rfl rfl) rfl rfl ?_
        refine l_q rfl (q_move rfl rfl) rfl rfl ?_
        refine l_q rfl (q_nilCheck rfl rfl) rfl rfl ?_
        refine l_q rfl (q_fieldAddr rfl Try.underlying100 rfl Try.sizeOf97 rfl rfl) rfl rfl ?_
        refine l_q rfl (q_loadC rfl Try.isAgg97 rfl (fun _ h => h.at 1 rfl) rfl) rfl rfl ?_
        refine l_q rfl (q_lenV rfl Try.underlying97 rfl (fun _ h => h.rd 2 rfl)) rfl rfl ?_
        refine l_q rfl (q_lss rfl rfl rfl) rfl rfl ?_
        refine l_nil ?_
        refine k_then ?_
        refine Pre.caseB 30 rfl (fun h1 => ?_) (fun h1 => ?_)
        · try simp only [decide_eq_true_eq, decide_eq_false_iff_not, Bool.not_eq_true', Bool.not_eq_false'] at h1
          obtain ⟨f, hfi⟩ : ∃ f, R.fl[i]? = some f := ⟨_, List.getElem?_eq_getElem (by omega)⟩
          have hv := hR.vw_at hfi
          have hfil := (List.getElem?_eq_some_iff.1 hfi).1
          refine c_true rfl ?_
          refine c_skip ?_
          refine k_then ?_
          refine c_seq ?_
          refine c_block ?_
          refine c_seq ?_
          refine c_region _ rfl ?_
          refine l_q rfl (q_move rfl rfl) rfl rfl ?_
          refine l_q rfl (q_nilCheck rfl rfl) rfl rfl ?_
          refine l_q rfl (q_fieldAddr rfl Try.underlying100 rfl Try.sizeOf97 rfl rfl) rfl rfl ?_
          refine l_q rfl (q_loadC rfl Try.isAgg97 rfl (fun _ h => h.at 1 rfl) rfl) rfl rfl ?_
          refine l_q rfl (q_move rfl rfl) rfl rfl ?_
          refine l_q rfl (q_indexV i rfl Try.underlying97 Try.sizeOf102 rfl (fun _ h => h.rd 2 rfl) rfl rfl (by omega)) rfl rfl ?_
          refine l_q rfl (q_fieldAddr rfl Try.underlying102 rfl Try.sizeOf3 rfl rfl) rfl rfl ?_
          refine l_q rfl (q_loadV i 0 rfl Try.isAgg3 rfl rfl (fun _ h => h.rd 2 rfl) hfi rfl) rfl rfl ?_
          refine l_q rfl (q_eql rfl rfl rfl) rfl rfl ?_
          refine l_q rfl (q_move rfl rfl) rfl rfl ?_
          refine Pre.caseB 42 rfl (fun h2 => ?_) (fun h2 => ?_)
          · try simp only [decide_eq_true_eq, decide_eq_false_iff_not, Bool.not_eq_true', Bool.not_eq_false'] at h2
            refine l_q rfl (q_move rfl rfl) rfl rfl ?_
            refine l_q rfl (q_nilCheck rfl rfl) rfl rfl ?_
            refine l_q rfl (q_fieldAddr rfl Try.underlying100 rfl Try.sizeOf97 rfl rfl) rfl rfl ?_
            refine l_q rfl (q_loadC rfl Try.isAgg97 rfl (fun _ h => h.at 1 rfl) rfl) rfl rfl ?_
            refine l_q rfl (q_move rfl rfl) rfl rfl ?_
            refine l_q rfl (q_indexV i rfl Try.underlying97 Try.sizeOf102 rfl (fun _ h => h.rd 2 rfl) rfl rfl (by omega)) rfl rfl ?_
            refine l_q rfl (q_fieldAddr rfl Try.underlying102 rfl Try.sizeOf3 rfl rfl) rfl rfl ?_
            refine l_q rfl (q_loadV i 10 rfl Try.isAgg3 rfl rfl (fun _ h => h.rd 2 rfl) hfi rfl) rfl rfl ?_
            refine l_q rfl (q_move rfl rfl) rfl rfl ?_
            refine l_q rfl (q_eql rfl rfl rfl) rfl rfl ?_
            refine l_q rfl (q_pick_t rfl rfl rfl) rfl rfl ?_
            refine l_nil ?_
            refine k_then ?_
            refine Pre.caseB 53 rfl (fun h3 => ?_) (fun h3 => ?_)
            · try simp only [decide_eq_true_eq, decide_eq_false_iff_not, Bool.not_eq_true', Bool.not_eq_false'] at h3
              have hc1 : isC t (vw f) = true := isC_yes h2 h3
              have hu := name_yes (M := M) (t := t) (b := b) nv.leaf nv.l hbf (fst1_some hv hc1 hno)
              refine c_true rfl ?_
              refine c_seq ?_
              refine c_draw [(0, some true), (1, some true), (2, some true), (3, some true), (4, some true), (5, some true), (6, some true), (7, some true), (8, none), (9, none)] [8, 9] [(_, some true), (_, some true), (_, some true), (_, some true), (_, some true), (_, some true), (_, some true), (_, some true), (_, none), (_, none)] (fun w2 => (cellsE bn 37 nv.c).at w2 ∧ (cellsE br 100 (RS.cells R M)).at w2 ∧ RdV w2 R.vF FC.encR R.fl) (blind_then (blind_block (blind_then (blind_then (blind_block (blind_then blind_body)))))) rfl (by kernel_rfl) (by kernel_rfl) rfl rfl rfl (by kernel_rfl) St.drawn (fun _ h => ⟨h.at 0 rfl, h.at 1 rfl, h.rd 2 rfl⟩) ?_
              refine d_q rfl (q_move rfl rfl) rfl rfl ?_
              refine d_q rfl (q_nilCheck rfl rfl) rfl rfl ?_
              refine d_q rfl (q_fieldAddr rfl Try.underlying100 rfl Try.sizeOf97 rfl rfl) rfl rfl ?_
              refine d_q rfl (q_loadC rfl Try.isAgg97 rfl (fun _ h => h.2.1) rfl) rfl rfl ?_
              refine d_q rfl (q_move rfl rfl) rfl rfl ?_
              refine d_q rfl (q_move rfl rfl) rfl rfl ?_
              refine d_q rfl (q_loadCAgg (nv.c) rfl Try.isAgg37 Try.sizeOf37 rfl (fun _ h => h.1) (rfl) (rfl)) rfl rfl ?_
              refine d_q rfl (q_build ((⟨2, b, 0, 0, true, true, nv⟩ : FC).cR) rfl rfl (fun w => by kernel_rfl)) rfl rfl ?_
              refine d_t rfl ?_
              refine e_q rfl rfl (q_indexV i rfl Try.underlying97 Try.sizeOf102 rfl (fun _ h => h.rd 2 rfl) rfl rfl (by omega)) ?_
              refine pull2 ?_
              refine d_t rfl ?_
              refine e_storeVAgg i (⟨2, b, 0, 0, true, true, nv⟩ : FC) rfl rfl Try.sizeOf102 rfl rfl rfl rfl (by omega) ?_
              refine d_nil ?_
              refine k_then ?_
              refine c_seq ?_
              refine c_region _ rfl ?_
              refine l_q rfl (q_assign rfl rfl) rfl rfl ?_
              refine l_nil ?_
              refine k_then ?_
              refine c_ret ?_
              refine k_block_ret ?_
              refine k_then_ret ?_
              refine k_then_ret ?_
              refine k_block_ret ?_
              refine k_then_ret ?_
              refine pull1 ?_
              refine drop0 ?_
              refine pull3 ?_
              refine pull3 ?_
              refine pull2 ?_
              refine pull3 ?_
              refine r_one rfl rfl ?_
              exact fun _ h => ⟨{ R with fl := R.fl.set i (⟨2, b, 0, 0, true, true, nv⟩ : FC) }, by rw [hu], ⟨by rw [hu]; exact hR.put (f' := (⟨2, b, 0, 0, true, true, nv⟩ : FC)) rfl, fun _ hn hG => hG.set hn⟩, by rw [hu]; exact h⟩
            · try simp only [decide_eq_true_eq, decide_eq_false_iff_not, Bool.not_eq_true', Bool.not_eq_false'] at h3
              have hc0 : isC t (vw f) = false := by exact isC_own h2 h3
              refine c_false rfl ?_
              refine c_skip ?_
              refine k_block ?_
              refine k_then ?_
              refine c_region _ rfl ?_
              refine l_q rfl (q_move rfl rfl) rfl rfl ?_
              refine l_q rfl (q_inc rfl rfl rfl (by omega)) rfl rfl ?_
              refine l_q rfl (q_assign rfl rfl) rfl rfl ?_
              refine l_nil ?_
              exact k_round (i + 1) (by omega) ⟨by omega, take_none hno hv hc0⟩ (Sub.cons rfl (Sub.cons rfl (Sub.cons rfl (Sub.cons rfl (Sub.cons rfl (Sub.nil)))))) (fun _ h => h)
          · try simp only [decide_eq_true_eq, decide_eq_false_iff_not, Bool.not_eq_true', Bool.not_eq_false'] at h2
            have hc0 : isC t (vw f) = false := by exact isC_st (show ¬ (vw f).st = 3 from h2)
            refine l_not rfl rfl rfl ?_
            refine l_not rfl rfl rfl ?_
            refine l_not rfl rfl rfl ?_
            refine l_not rfl rfl rfl ?_
            refine l_not rfl rfl rfl ?_
            refine l_not rfl rfl rfl ?_
            refine l_not rfl rfl rfl ?_
            refine l_not rfl rfl rfl ?_
            refine l_not rfl rfl rfl ?_
            refine l_not rfl rfl rfl ?_
            refine l_q rfl (q_pick_f rfl rfl rfl) rfl rfl ?_
            refine l_nil ?_
            refine k_then ?_
            refine c_false rfl ?_
            refine c_skip ?_
            refine k_block ?_
            refine k_then ?_
            refine c_region _ rfl ?_
            refine l_q rfl (q_move rfl rfl) rfl rfl ?_
            refine l_q rfl (q_inc rfl rfl rfl (by omega)) rfl rfl ?_
            refine l_q rfl (q_assign rfl rfl) rfl rfl ?_
            refine l_nil ?_
            exact k_round (i + 1) (by omega) ⟨by omega, take_none hno hv hc0⟩ (Sub.cons rfl (Sub.cons rfl (Sub.cons rfl (Sub.cons rfl (Sub.cons rfl (Sub.nil)))))) (fun _ h => h)
        · try simp only [decide_eq_true_eq, decide_eq_false_iff_not, Bool.not_eq_true', Bool.not_eq_false'] at h1
          rw [List.take_of_length_le (by omega)] at hno
          have hu := name_no2 (M := M) (t := t) (b := b) nv.leaf nv.l (fst1_none hno)
          refine c_false rfl ?_
          refine c_exit ?_
          refine k_then_exit ?_
          refine k_then_exit ?_
          refine k_block_exit ?_
          refine k_then ?_
          refine c_seq ?_
          refine c_region _ rfl ?_
          refine l_q rfl (q_assign rfl rfl) rfl rfl ?_
          refine l_nil ?_
          refine k_then ?_
          refine c_ret ?_
          refine drop0 ?_
          refine r_one rfl rfl ?_
          exact fun _ h => ⟨R, by rw [hu], ⟨by rw [hu]; exact hR, fun _ _ h => h⟩, by rw [hu]; exact h⟩
set_option maxRecDepth 100000 in
set_option maxHeartbeats 1000000 in
theorem rnew_bad (n : Int) (hn : n < 1 ∨ 64 < n) : Con Try.prog 29 [.int .i64 n] (fun _ => True) [] (fun _ : Unit => .tuple #[.pointer none, .int .i64 1]) (fun _ => True) (fun _ => []) := by
  intro w hE hH
  refine enter (n := 29) (vs := [.int .i64 n]) (St w [] []) Try.func29 rfl rfl rfl (St.init hH) ?_
  refine c_seq ?_
  refine c_region _ rfl ?_
  refine l_q rfl (q_assign rfl rfl) rfl rfl ?_
  refine l_q rfl (q_assign rfl rfl) rfl rfl ?_
  refine l_nil ?_
  refine k_then ?_
  refine c_seq ?_
  refine c_seq ?_
  refine c_region _ rfl ?_
  refine l_q rfl (q_move rfl rfl) rfl rfl ?_
  refine l_q rfl (q_lss rfl rfl rfl) rfl rfl ?_
  refine l_q rfl (q_move rfl rfl) rfl rfl ?_
  refine Pre.caseB 8 rfl (fun h1 => ?_) (fun h1 => ?_)
  · try simp only [decide_eq_true_eq, decide_eq_false_iff_not, Bool.not_eq_true', Bool.not_eq_false'] at h1
    refine l_not rfl rfl rfl ?_
    refine l_not rfl rfl rfl ?_
    refine l_q rfl (q_pick_t rfl rfl rfl) rfl rfl ?_
    refine l_nil ?_
    refine k_then ?_
    refine c_true rfl ?_
    refine c_seq ?_
    refine c_region _ rfl ?_
    refine l_q rfl (q_assign rfl rfl) rfl rfl ?_
    refine l_q rfl (q_assign rfl rfl) rfl rfl ?_
    refine l_nil ?_
    refine k_then ?_
    refine c_ret ?_
    refine k_then_ret ?_
    refine r_many (rs := [.tmp 2, .tmp 3]) rfl rfl ?_
    exact fun _ h => ⟨(), rfl, trivial, h⟩
  · try simp only [decide_eq_true_eq, decide_eq_false_iff_not, Bool.not_eq_true', Bool.not_eq_false'] at h1
    refine l_q rfl (q_move rfl rfl) rfl rfl ?_
    refine l_q rfl (q_gtr rfl rfl rfl) rfl rfl ?_
    refine l_q rfl (q_pick_f rfl rfl rfl) rfl rfl ?_
    refine l_nil ?_
    refine k_then ?_
    refine Pre.caseB 11 rfl (fun h2 => ?_) (fun h2 => ?_)
    · try simp only [decide_eq_true_eq, decide_eq_false_iff_not, Bool.not_eq_true', Bool.not_eq_false'] at h2
      refine c_true rfl ?_
      refine c_seq ?_
      refine c_region _ rfl ?_
      refine l_q rfl (q_assign rfl rfl) rfl rfl ?_
      refine l_q rfl (q_assign rfl rfl) rfl rfl ?_
      refine l_nil ?_
      refine k_then ?_
      refine c_ret ?_
      refine k_then_ret ?_
      refine r_many (rs := [.tmp 2, .tmp 3]) rfl rfl ?_
      exact fun _ h => ⟨(), rfl, trivial, h⟩
    · try simp only [decide_eq_true_eq, decide_eq_false_iff_not, Bool.not_eq_true', Bool.not_eq_false'] at h2
      exfalso; omega
set_option maxRecDepth 100000 in
set_option maxHeartbeats 1000000 in
theorem rnew_spec (n : Nat) (h1n : 1 ≤ n) (hn : n ≤ 64) : Con Try.prog 29 [.int .i64 (n : Int)] (fun _ => True) [] (fun r : Nat × RS => .tuple #[.pointer (some ⟨r.1, 0, none⟩), .int .i64 0]) (fun r => RelR r.2 (mo0 n) ∧ ∀ G, NIn G r.2.fl) (fun r => r.2.H r.1 (mo0 n)) := by
  intro w hE hH
  refine enter (n := 29) (vs := [.int .i64 (n : Int)]) (St w [] []) Try.func29 rfl rfl rfl (St.init hH) ?_
  refine c_seq ?_
  refine c_region _ rfl ?_
  refine l_q rfl (q_assign rfl rfl) rfl rfl ?_
  refine l_q rfl (q_assign rfl rfl) rfl rfl ?_
  refine l_nil ?_
  refine k_then ?_
  refine c_seq ?_
  refine c_seq ?_
  refine c_region _ rfl ?_
  refine l_q rfl (q_move rfl rfl) rfl rfl ?_
  refine l_q rfl (q_lss rfl rfl rfl) rfl rfl ?_
  refine l_q rfl (q_move rfl rfl) rfl rfl ?_
  refine Pre.setB (t := 8) (c := false) rfl (decide_eq_false (by omega)) ?_
  refine l_q rfl (q_move rfl rfl) rfl rfl ?_
  refine l_q rfl (q_gtr rfl rfl rfl) rfl rfl ?_
  refine l_q rfl (q_pick_f rfl rfl rfl) rfl rfl ?_
  refine l_nil ?_
  refine k_then ?_
  refine Pre.setB (t := 11) (c := false) rfl (decide_eq_false (by omega)) ?_
  refine c_false rfl ?_
  refine c_skip ?_
  refine k_then ?_
  refine c_seq ?_
  refine c_region _ rfl ?_
  refine l_q rfl (q_move rfl rfl) rfl rfl ?_
  refine l_e rfl ?_
  refine e_makeSlice FC.encR f00 n rfl rfl rfl Try.underlying97 info102 rfl rfl rfl rfl rfl rfl rfl (by simp only [byt102]; omega) (by omega) ?_
  intro v
  refine Pre.fact (fun _ h => rd_sv (h.rd 0 rfl)) ?_
  rintro ⟨sv, rfl⟩
  refine l_q rfl (q_build (RS.cells (⟨sv.v, List.replicate n fZ, nil0, nil0⟩ : RS) (mo0 n)) rfl rfl (fun w => by kernel_rfl)) rfl rfl ?_
  refine l_e rfl ?_
  refine e_box rfl rfl rfl rfl ?_
  intro bc
  refine cells_eq (show _ = RS.cells (⟨sv.v, List.replicate n fZ, nil0, nil0⟩ : RS) (mo0 n) from rfl) ?_
  refine l_q rfl (q_assign rfl rfl) rfl rfl ?_
  refine l_nil ?_
  refine k_then ?_
  refine c_seq ?_
  refine c_seq ?_
  refine c_region _ rfl ?_
  refine l_q rfl (q_assign rfl rfl) rfl rfl ?_
  refine l_nil ?_
  refine k_then ?_
  refine c_block ?_
  refine pull1 ?_
  refine pull1 ?_
  refine c_loop1 (fun (i : Nat) => [(0, .int .i64 (n : Int)), (4, .pointer (some ⟨bc, 0, none⟩)), (5, .int .i64 (i : Int))]) (fun (i : Nat) => St w [] [cellsE bc 100 (RS.cells (⟨sv.v, List.replicate n fZ, nil0, nil0⟩ : RS) (mo0 n)), rowE sv.v 102 FC.encR (List.replicate i fZ ++ List.replicate (n - i) f00)]) (fun (i : Nat) => i ≤ n) (fun (i : Nat) => n - i) (0) (Nat.zero_le _) (Sub.cons rfl (Sub.cons rfl (Sub.cons rfl (Sub.nil)))) (fun _ h => h) ?_
  intro i hi
  refine c_seq ?_
  refine c_seq ?_
  have hll : (List.replicate i fZ ++ List.replicate (n - i) f00).length = n := by rw [List.length_append, List.length_replicate, List.length_replicate]; omega
  refine c_region _ rfl ?_
  refine l_q rfl (q_move rfl rfl) rfl rfl ?_
  refine l_q rfl (q_move rfl rfl) rfl rfl ?_
  refine l_q rfl (q_lss rfl rfl rfl) rfl rfl ?_
  refine l_nil ?_
  refine k_then ?_
  refine Pre.caseB 18 rfl (fun h1 => ?_) (fun h1 => ?_)
  · try simp only [decide_eq_true_eq, decide_eq_false_iff_not, Bool.not_eq_true', Bool.not_eq_false'] at h1
    have hrg := rep_get (n := n) (i := i) (by omega)
    have hrs := rep_set (n := n) (i := i) (by omega)
    refine c_true rfl ?_
    refine c_skip ?_
    refine k_then ?_
    refine c_seq ?_
    refine c_block ?_
    refine c_region _ rfl ?_
    refine l_q rfl (q_move rfl rfl) rfl rfl ?_
    refine l_q rfl (q_nilCheck rfl rfl) rfl rfl ?_
    refine l_q rfl (q_fieldAddr rfl Try.underlying100 rfl Try.sizeOf97 rfl rfl) rfl rfl ?_
    refine l_q rfl (q_loadC rfl Try.isAgg97 rfl (fun _ h => h.at 0 rfl) rfl) rfl rfl ?_
    refine l_q rfl (q_move rfl rfl) rfl rfl ?_
    refine l_q rfl (q_indexV i rfl Try.underlying97 Try.sizeOf102 rfl (fun _ h => h.rd 1 rfl) rfl rfl (by omega)) rfl rfl ?_
    refine l_q rfl (q_fieldAddr rfl Try.underlying102 rfl Try.sizeOf3 rfl rfl) rfl rfl ?_
    refine pull1 ?_
    refine l_e rfl ?_
    refine e_storeV i 1 (fZ) rfl rfl Try.sizeOf3 rfl rfl rfl hrg (by decide) rfl ?_
    refine l_nil ?_
    refine k_block ?_
    refine k_then ?_
    refine c_region _ rfl ?_
    refine l_q rfl (q_move rfl rfl) rfl rfl ?_
    refine l_q rfl (q_inc rfl rfl rfl (by omega)) rfl rfl ?_
    refine l_q rfl (q_assign rfl rfl) rfl rfl ?_
    refine l_nil ?_
    refine row_eq hrs ?_
    refine pull1 ?_
    exact k_round (i + 1) (by omega) (by omega) (Sub.cons rfl (Sub.cons rfl (Sub.cons rfl (Sub.nil)))) (fun _ h => h)
  · try simp only [decide_eq_true_eq, decide_eq_false_iff_not, Bool.not_eq_true', Bool.not_eq_false'] at h1
    have hin : i = n := by omega
    subst hin
    rw [Nat.sub_self, List.replicate_zero, List.append_nil]
    refine row0 138 encP none ?_
    refine row0 138 encP none ?_
    refine c_false rfl ?_
    refine c_exit ?_
    refine k_then_exit ?_
    refine k_then_exit ?_
    refine k_block_exit ?_
    refine k_then ?_
    refine c_seq ?_
    refine c_region _ rfl ?_
    refine l_q rfl (q_move rfl rfl) rfl rfl ?_
    refine l_q rfl (q_assign rfl rfl) rfl rfl ?_
    refine l_q rfl (q_assign rfl rfl) rfl rfl ?_
    refine l_nil ?_
    refine k_then ?_
    refine c_ret ?_
    refine pull1 ?_
    refine pull3 ?_
    refine pull3 ?_
    refine r_many (rs := [.tmp 2, .tmp 3]) rfl rfl ?_
    exact fun _ h => ⟨(bc, (⟨sv.v, List.replicate i fZ, nil0, nil0⟩ : RS)), rfl, ⟨RelR.zero _ _ _, fun G => NIn.zeroR G i⟩, h⟩
end Go.Proofs.Ytpfbagkjhchojaa
