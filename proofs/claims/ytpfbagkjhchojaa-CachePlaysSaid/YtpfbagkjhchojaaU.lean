/- the reference cache: Claim, Unpin, Set, Fill, Give, Name, New -/
import Derived.Test.YtpfbagkjhchojaaT
set_option linter.unusedVariables false
set_option linter.unusedSimpArgs false
namespace Go.Proofs.Ytpfbagkjhchojaa
open Go.Sep Go.RowKit

theorem claim_none {M : Mo} {t : Int} (h : M.mayW t (-1) = true) (hk : M.takes t = none) : M.claim t = (false, M.tk t (-1)) := by rw [claim_queue h hk, tk_none hk]
theorem claim_q {M : Mo} {B : Nat} (hO : M.Ok B) {q : Int × Int} (hq : q ∈ M.line) : decide (q.2 = -1) = !decide (0 ≤ q.2) := by
  have := hO.lb q hq
  by_cases h : 0 ≤ q.2
  · rw [decide_eq_true h, decide_eq_false (by omega)]; rfl
  · rw [decide_eq_false h, decide_eq_true (by omega)]; rfl
set_option maxRecDepth 100000 in
set_option maxHeartbeats 1000000 in
theorem rclaim_spec {br : Nat} {R : RS} {M : Mo} {B : Nat} (hR : RelR R M) (hO : M.Ok B) (t : Int) : Con Try.prog 54 [.pointer (some ⟨br, 0, none⟩), .int .i64 t] (fun _ => True) (R.H br M) (fun R' : RS => .bool (M.claim t).1) (fun R' => RelR R' (M.claim t).2 ∧ ∀ G, NIn G R.fl → NIn G R'.fl) (fun R' => R'.H br (M.claim t).2) := by
  intro w hE hH
  refine enter (n := 51) (vs := [.pointer (some ⟨br, 0, none⟩), .int .i64 t]) (St w (dom (R.H br M)) (cellsE br 100 (RS.cells R M) :: rowE (R).vF 102 FC.encR (R).fl :: rowE (R).vL 138 encP (Mo.line M) :: rowE (R).vO 138 encP (Mo.loads M) :: [])) Try.func54 rfl rfl rfl (St.init hH) ?_
  refine c_seq ?_
  have hfl := hR.len
  have h64 := hO.n64
  have hB9 := hO.B9
  have hlB := hO.lB
  have hlL := hO.ll
  refine c_region _ rfl ?_
  refine l_q rfl (q_assign rfl rfl) rfl rfl ?_
  refine l_nil ?_
  refine k_then ?_
  refine c_seq ?_
  refine c_seq ?_
  refine c_region _ rfl ?_
  refine l_q rfl (q_move rfl rfl) rfl rfl ?_
  refine l_e rfl ?_
  refine e_call_00 (rtask_spec t) rfl rfl rfl Try.call84 rfl (fun _ _ => trivial) ?_
  intro _ _
  refine l_q rfl (q_not rfl rfl) rfl rfl ?_
  refine l_q rfl (q_move rfl rfl) rfl rfl ?_
  refine Pre.caseB 10 rfl (fun h1 => ?_) (fun h1 => ?_)
  · try simp only [Bool.not_eq_true', Bool.not_eq_false'] at h1
    have hu := claim_no (M := M) (t := t) (by rw [mayW_t h1])
    refine l_not rfl rfl rfl ?_
    refine l_not rfl rfl rfl ?_
    refine l_not rfl rfl rfl ?_
    refine l_not rfl rfl rfl ?_
    refine l_not rfl rfl rfl ?_
    refine l_not rfl rfl rfl ?_
    refine l_not rfl rfl rfl ?_
    refine l_q rfl (q_pick_t rfl rfl rfl) rfl rfl ?_
    refine l_nil ?_
    refine k_then ?_
    refine c_true rfl ?_
    refine c_seq ?_
    refine c_region _ rfl ?_
    refine l_q rfl (q_assign rfl rfl) rfl rfl ?_
    refine l_nil ?_
    refine k_then ?_
    refine c_ret ?_
    refine k_then_ret ?_
    refine r_one rfl rfl ?_
    exact fun _ h => ⟨R, by rw [hu], ⟨by rw [hu]; exact hR, fun _ h => h⟩, by rw [hu]; exact h⟩
  · try simp only [Bool.not_eq_true', Bool.not_eq_false'] at h1
    refine l_q rfl (q_move rfl rfl) rfl rfl ?_
    refine l_q rfl (q_nilCheck rfl rfl) rfl rfl ?_
    refine l_q rfl (q_fieldAddr rfl Try.underlying100 rfl Try.sizeOf98 rfl rfl) rfl rfl ?_
    refine l_q rfl (q_loadC rfl Try.isAgg98 rfl (fun _ h => h.at 0 rfl) rfl) rfl rfl ?_
    refine l_q rfl (q_move rfl rfl) rfl rfl ?_
    refine l_e rfl ?_
    refine e_call_00 (rat_spec M.loads t (by omega)) rfl rfl rfl Try.call86 rfl (fun _ h => h.rd 3 rfl) ?_
    intro _ _
    refine l_q rfl (q_geq rfl rfl rfl) rfl rfl ?_
    refine l_q rfl (q_pick_f rfl rfl rfl) rfl rfl ?_
    refine l_nil ?_
    refine k_then ?_
    refine Pre.caseB 18 rfl (fun h2 => ?_) (fun h2 => ?_)
    · try simp only [io_ge, waits_at, decide_eq_true_eq] at h2
      have hu := claim_no (M := M) (t := t) (by rw [mayW_w h2])
      refine c_true rfl ?_
      refine c_seq ?_
      refine c_region _ rfl ?_
      refine l_q rfl (q_assign rfl rfl) rfl rfl ?_
      refine l_nil ?_
      refine k_then ?_
      refine c_ret ?_
      refine k_then_ret ?_
      refine r_one rfl rfl ?_
      exact fun _ h => ⟨R, by rw [hu], ⟨by rw [hu]; exact hR, fun _ h => h⟩, by rw [hu]; exact h⟩
    · try simp only [io_ge, waits_at, decide_eq_true_eq] at h2
      refine c_false rfl ?_
      refine c_skip ?_
      refine k_then ?_
      refine c_seq ?_
      refine c_region _ rfl ?_
      refine l_q rfl (q_move rfl rfl) rfl rfl ?_
      refine l_q rfl (q_nilCheck rfl rfl) rfl rfl ?_
      refine l_q rfl (q_fieldAddr rfl Try.underlying100 rfl Try.sizeOf98 rfl rfl) rfl rfl ?_
      refine l_q rfl (q_loadC rfl Try.isAgg98 rfl (fun _ h => h.at 0 rfl) rfl) rfl rfl ?_
      refine l_q rfl (q_move rfl rfl) rfl rfl ?_
      refine l_e rfl ?_
      refine e_call_00 (rat_spec M.line t (by omega)) rfl rfl rfl Try.call86 rfl (fun _ h => h.rd 2 rfl) ?_
      intro _ _
      refine l_q rfl (q_assign rfl rfl) rfl rfl ?_
      refine l_nil ?_
      refine k_then ?_
      refine c_seq ?_
      refine c_seq ?_
      refine opt_cases (M.stand t) (fun hs => ?_) (fun k hs => ?_)
      · refine Pre.setV (t := 5) (c := .int .i64 (-1)) rfl (by rw [show fst1 (isT t) M.line = none from hs]; rfl) ?_
        refine c_region _ rfl ?_
        refine l_q rfl (q_move rfl rfl) rfl rfl ?_
        refine l_q rfl (q_geq rfl rfl rfl) rfl rfl ?_
        refine l_q rfl (q_move rfl rfl) rfl rfl ?_
        refine Pre.setB (t := 27) (c := false) rfl (rfl) ?_
        refine l_not rfl rfl rfl ?_
        refine l_not rfl rfl rfl ?_
        refine l_not rfl rfl rfl ?_
        refine l_not rfl rfl rfl ?_
        refine l_not rfl rfl rfl ?_
        refine l_not rfl rfl rfl ?_
        refine l_not rfl rfl rfl ?_
        refine l_not rfl rfl rfl ?_
        refine l_not rfl rfl rfl ?_
        refine l_q rfl (q_pick_f rfl rfl rfl) rfl rfl ?_
        refine l_nil ?_
        refine k_then ?_
        refine c_false rfl ?_
        refine c_skip ?_
        refine k_then ?_
        refine c_seq ?_
        refine c_region _ rfl ?_
        refine l_q rfl (q_move rfl rfl) rfl rfl ?_
        refine l_q rfl (q_move rfl rfl) rfl rfl ?_
        have hm := mayW_no (b := -1) h1 h2 hs
        refine l_e rfl ?_
        refine e_callH [] (rtakes_spec hR hO t (-1)) rfl rfl rfl Try.call89 rfl (fun _ _ => trivial) ?_
        intro v _
        refine Pre.world (St _ _ (cellsE br 100 (RS.cells { R with vL := v } (M.tk t (-1))) :: rowE ({ R with vL := v }).vF 102 FC.encR ({ R with vL := v }).fl :: rowE ({ R with vL := v }).vL 138 encP (Mo.line (M.tk t (-1))) :: rowE ({ R with vL := v }).vO 138 encP (Mo.loads (M.tk t (-1))) :: [])) (fun _ h => h) ?_
        refine l_q rfl (q_assign rfl rfl) rfl rfl ?_
        refine l_nil ?_
        refine k_then ?_
        refine c_seq ?_
        refine c_seq ?_
        refine opt_cases (M.takes t) (fun hk => ?_) (fun k hk => ?_)
        · have hu := claim_none hm hk
          refine Pre.setV (t := 6) (c := .int .i64 (-1)) rfl (by rw [hk]; rfl) ?_
          refine c_region _ rfl ?_
          refine l_q rfl (q_move rfl rfl) rfl rfl ?_
          refine l_q rfl (q_lss rfl rfl rfl) rfl rfl ?_
          refine l_nil ?_
          refine k_then ?_
          refine Pre.setB (t := 42) (c := true) rfl (rfl) ?_
          refine c_true rfl ?_
          refine c_seq ?_
          refine c_region _ rfl ?_
          refine l_q rfl (q_assign rfl rfl) rfl rfl ?_
          refine l_nil ?_
          refine k_then ?_
          refine c_ret ?_
          refine k_then_ret ?_
          refine r_one rfl rfl ?_
          exact fun _ h => ⟨{ R with vL := v }, by rw [hu], ⟨by rw [hu]; exact (show R.fl.map vw = (M.tk t (-1)).fr by rw [tk_fr]; exact hR), fun _ h => h⟩, by rw [hu]; exact h⟩
        · have hu := claim_some hm hk
          rw [tk_some hk]
          obtain ⟨y0, hy0, hys, hya⟩ := takes_at hk
          obtain ⟨f0, hfk, hfy⟩ := hR.get hy0
          have hkl := (List.getElem?_eq_some_iff.1 hfk).1
          refine Pre.setV (t := 6) (c := .int .i64 (k : Int)) rfl (by rw [hk]; rfl) ?_
          refine c_region _ rfl ?_
          refine l_q rfl (q_move rfl rfl) rfl rfl ?_
          refine l_q rfl (q_lss rfl rfl rfl) rfl rfl ?_
          refine l_nil ?_
          refine k_then ?_
          refine Pre.setB (t := 42) (c := false) rfl (decide_eq_false (by omega)) ?_
          refine c_false rfl ?_
          refine c_skip ?_
          refine k_then ?_
          refine c_seq ?_
          refine c_region _ rfl ?_
          refine l_q rfl (q_move rfl rfl) rfl rfl ?_
          refine l_q rfl (q_nilCheck rfl rfl) rfl rfl ?_
          refine l_q rfl (q_fieldAddr rfl Try.underlying100 rfl Try.sizeOf97 rfl rfl) rfl rfl ?_
          refine l_q rfl (q_loadC rfl Try.isAgg97 rfl (fun _ h => h.at 0 rfl) rfl) rfl rfl ?_
          refine l_q rfl (q_move rfl rfl) rfl rfl ?_
          refine l_q rfl (q_move rfl rfl) rfl rfl ?_
          refine l_q rfl (q_build ((⟨3, -1, t, 1, false, false, nv0⟩ : FC).cR) rfl rfl (fun w => by kernel_rfl)) rfl rfl ?_
          refine l_q rfl (q_indexV k rfl Try.underlying97 Try.sizeOf102 rfl (fun _ h => h.rd 1 rfl) rfl rfl (by omega)) rfl rfl ?_
          refine pull1 ?_
          refine l_e rfl ?_
          refine e_storeVAgg k (⟨3, -1, t, 1, false, false, nv0⟩ : FC) rfl rfl Try.sizeOf102 rfl rfl rfl rfl (by omega) ?_
          refine l_nil ?_
          refine k_then ?_
          refine c_seq ?_
          refine c_region _ rfl ?_
          refine l_q rfl (q_assign rfl rfl) rfl rfl ?_
          refine l_nil ?_
          refine k_then ?_
          refine c_ret ?_
          refine pull3 ?_
          refine pull3 ?_
          refine pull2 ?_
          refine pull3 ?_
          refine r_one rfl rfl ?_
          exact fun _ h => ⟨{ R with vL := v, fl := R.fl.set k (⟨3, -1, t, 1, false, false, nv0⟩ : FC) }, by rw [hu], ⟨by rw [hu]; exact (show RelR { R with vL := v } (M.leave t) from hR).put rfl, fun _ hG => hG.set (.inl ⟨rfl, rfl⟩)⟩, by rw [hu]; exact h⟩
      · obtain ⟨q, hq, hqt⟩ := stand_at hs
        have hlt := (List.getElem?_eq_some_iff.1 hq).1
        have hmw := mayW_at (b := -1) h1 h2 hs hq hqt
        rw [claim_q hO (List.mem_of_getElem? hq)] at hmw
        refine Pre.setV (t := 5) (c := .int .i64 (k : Int)) rfl (by rw [show fst1 (isT t) M.line = some k from hs]; rfl) ?_
        refine c_region _ rfl ?_
        refine l_q rfl (q_move rfl rfl) rfl rfl ?_
        refine l_q rfl (q_geq rfl rfl rfl) rfl rfl ?_
        refine l_q rfl (q_move rfl rfl) rfl rfl ?_
        refine Pre.setB (t := 27) (c := true) rfl (decide_eq_true (by omega)) ?_
        refine l_q rfl (q_move rfl rfl) rfl rfl ?_
        refine l_q rfl (q_nilCheck rfl rfl) rfl rfl ?_
        refine l_q rfl (q_fieldAddr rfl Try.underlying100 rfl Try.sizeOf98 rfl rfl) rfl rfl ?_
        refine l_q rfl (q_loadC rfl Try.isAgg98 rfl (fun _ h => h.at 0 rfl) rfl) rfl rfl ?_
        refine l_q rfl (q_move rfl rfl) rfl rfl ?_
        refine l_q rfl (q_indexV k rfl Try.underlying98 Try.sizeOf138 rfl (fun _ h => h.rd 2 rfl) rfl rfl (by omega)) rfl rfl ?_
        refine l_q rfl (q_fieldAddr rfl Try.underlying138 rfl Try.sizeOf3 rfl rfl) rfl rfl ?_
        refine l_q rfl (q_loadV k 1 rfl Try.isAgg3 rfl rfl (fun _ h => h.rd 2 rfl) hq rfl) rfl rfl ?_
        refine l_q rfl (q_geq rfl rfl rfl) rfl rfl ?_
        refine l_q rfl (q_pick_t rfl rfl rfl) rfl rfl ?_
        refine l_nil ?_
        refine k_then ?_
        refine Pre.caseB 37 rfl (fun hqb => ?_) (fun hqb => ?_)
        · try simp only [decide_eq_true_eq, decide_eq_false_iff_not, Bool.not_eq_true', Bool.not_eq_false'] at hqb
          have hmf : M.mayW t (-1) = false := by rw [hmw, decide_eq_true hqb]; rfl
          have hu := claim_no (M := M) (t := t) (by exact hmf)
          refine c_true rfl ?_
          refine c_seq ?_
          refine c_region _ rfl ?_
          refine l_q rfl (q_assign rfl rfl) rfl rfl ?_
          refine l_nil ?_
          refine k_then ?_
          refine c_ret ?_
          refine k_then_ret ?_
          refine r_one rfl rfl ?_
          exact fun _ h => ⟨R, by rw [hu], ⟨by rw [hu]; exact hR, fun _ h => h⟩, by rw [hu]; exact h⟩
        · try simp only [decide_eq_true_eq, decide_eq_false_iff_not, Bool.not_eq_true', Bool.not_eq_false'] at hqb
          have hm : M.mayW t (-1) = true := by rw [hmw, decide_eq_false (by omega)]; rfl
          refine c_false rfl ?_
          refine c_skip ?_
          refine k_then ?_
          refine c_seq ?_
          refine c_region _ rfl ?_
          refine l_q rfl (q_move rfl rfl) rfl rfl ?_
          refine l_q rfl (q_move rfl rfl) rfl rfl ?_
          refine l_e rfl ?_
          refine e_callH [] (rtakes_spec hR hO t (-1)) rfl rfl rfl Try.call89 rfl (fun _ _ => trivial) ?_
          intro v _
          refine Pre.world (St _ _ (cellsE br 100 (RS.cells { R with vL := v } (M.tk t (-1))) :: rowE ({ R with vL := v }).vF 102 FC.encR ({ R with vL := v }).fl :: rowE ({ R with vL := v }).vL 138 encP (Mo.line (M.tk t (-1))) :: rowE ({ R with vL := v }).vO 138 encP (Mo.loads (M.tk t (-1))) :: [])) (fun _ h => h) ?_
          refine l_q rfl (q_assign rfl rfl) rfl rfl ?_
          refine l_nil ?_
          refine k_then ?_
          refine c_seq ?_
          refine c_seq ?_
          refine opt_cases (M.takes t) (fun hk => ?_) (fun k hk => ?_)
          · have hu := claim_none hm hk
            refine Pre.setV (t := 6) (c := .int .i64 (-1)) rfl (by rw [hk]; rfl) ?_
            refine c_region _ rfl ?_
            refine l_q rfl (q_move rfl rfl) rfl rfl ?_
            refine l_q rfl (q_lss rfl rfl rfl) rfl rfl ?_
            refine l_nil ?_
            refine k_then ?_
            refine Pre.setB (t := 42) (c := true) rfl (rfl) ?_
            refine c_true rfl ?_
            refine c_seq ?_
            refine c_region _ rfl ?_
            refine l_q rfl (q_assign rfl rfl) rfl rfl ?_
            refine l_nil ?_
            refine k_then ?_
            refine c_ret ?_
            refine k_then_ret ?_
            refine r_one rfl rfl ?_
            exact fun _ h => ⟨{ R with vL := v }, by rw [hu], ⟨by rw [hu]; exact (show R.fl.map vw = (M.tk t (-1)).fr by rw [tk_fr]; exact hR), fun _ h => h⟩, by rw [hu]; exact h⟩
          · have hu := claim_some hm hk
            rw [tk_some hk]
            obtain ⟨y0, hy0, hys, hya⟩ := takes_at hk
            obtain ⟨f0, hfk, hfy⟩ := hR.get hy0
            have hkl := (List.getElem?_eq_some_iff.1 hfk).1
            refine Pre.setV (t := 6) (c := .int .i64 (k : Int)) rfl (by rw [hk]; rfl) ?_
            refine c_region _ rfl ?_
            refine l_q rfl (q_move rfl rfl) rfl rfl ?_
            refine l_q rfl (q_lss rfl rfl rfl) rfl rfl ?_
            refine l_nil ?_
            refine k_then ?_
            refine Pre.setB (t := 42) (c := false) rfl (decide_eq_false (by omega)) ?_
            refine c_false rfl ?_
            refine c_skip ?_
            refine k_then ?_
            refine c_seq ?_
            refine c_region _ rfl ?_
            refine l_q rfl (q_move rfl rfl) rfl rfl ?_
            refine l_q rfl (q_nilCheck rfl rfl) rfl rfl ?_
            refine l_q rfl (q_fieldAddr rfl Try.underlying100 rfl Try.sizeOf97 rfl rfl) rfl rfl ?_
            refine l_q rfl (q_loadC rfl Try.isAgg97 rfl (fun _ h => h.at 0 rfl) rfl) rfl rfl ?_
            refine l_q rfl (q_move rfl rfl) rfl rfl ?_
            refine l_q rfl (q_move rfl rfl) rfl rfl ?_
            refine l_q rfl (q_build ((⟨3, -1, t, 1, false, false, nv0⟩ : FC).cR) rfl rfl (fun w => by kernel_rfl)) rfl rfl ?_
            refine l_q rfl (q_indexV k rfl Try.underlying97 Try.sizeOf102 rfl (fun _ h => h.rd 1 rfl) rfl rfl (by omega)) rfl rfl ?_
            refine pull1 ?_
            refine l_e rfl ?_
            refine e_storeVAgg k (⟨3, -1, t, 1, false, false, nv0⟩ : FC) rfl rfl Try.sizeOf102 rfl rfl rfl rfl (by omega) ?_
            refine l_nil ?_
            refine k_then ?_
            refine c_seq ?_
            refine c_region _ rfl ?_
            refine l_q rfl (q_assign rfl rfl) rfl rfl ?_
            refine l_nil ?_
            refine k_then ?_
            refine c_ret ?_
            refine pull3 ?_
            refine pull3 ?_
            refine pull2 ?_
            refine pull3 ?_
            refine r_one rfl rfl ?_
            exact fun _ h => ⟨{ R with vL := v, fl := R.fl.set k (⟨3, -1, t, 1, false, false, nv0⟩ : FC) }, by rw [hu], ⟨by rw [hu]; exact (show RelR { R with vL := v } (M.leave t) from hR).put rfl, fun _ hG => hG.set (.inl ⟨rfl, rfl⟩)⟩, by rw [hu]; exact h⟩
set_option maxRecDepth 100000 in
set_option maxHeartbeats 1000000 in
theorem runpin_spec {br : Nat} {R : RS} {M : Mo} {B : Nat} (hR : RelR R M) (hO : M.Ok B) (b : Int) : Con Try.prog 57 [.pointer (some ⟨br, 0, none⟩), .int .i64 b] (fun _ => True) (R.H br M) (fun R' : RS => .bool (M.unpin b).1) (fun R' => RelR R' (M.unpin b).2 ∧ ∀ G, NIn G R.fl → NIn G R'.fl) (fun R' => R'.H br (M.unpin b).2) := by
  intro w hE hH
  refine enter (n := 38) (vs := [.pointer (some ⟨br, 0, none⟩), .int .i64 b]) (St w (dom (R.H br M)) (cellsE br 100 (RS.cells R M) :: rowE (R).vF 102 FC.encR (R).fl :: rowE (R).vL 138 encP (Mo.line M) :: rowE (R).vO 138 encP (Mo.loads M) :: [])) Try.func57 rfl rfl rfl (St.init hH) ?_
  refine c_seq ?_
  have hfl := hR.len
  have h64 := hO.n64
  have hB9 := hO.B9
  have hlB := hO.lB
  have hlL := hO.ll
  refine c_region _ rfl ?_
  refine l_q rfl (q_assign rfl rfl) rfl rfl ?_
  refine l_nil ?_
  refine k_then ?_
  refine c_seq ?_
  refine c_region _ rfl ?_
  refine l_q rfl (q_move rfl rfl) rfl rfl ?_
  refine l_q rfl (q_move rfl rfl) rfl rfl ?_
  refine l_e rfl ?_
  refine e_call_00 (rready_spec hR hO b) rfl rfl rfl Try.call65 rfl (fun _ h => RC.ofm (R := R) (M := M) h (fun e he => he)) ?_
  intro _ _
  refine l_q rfl (q_assign rfl rfl) rfl rfl ?_
  refine l_nil ?_
  refine k_then ?_
  refine c_seq ?_
  refine c_seq ?_
  refine opt_cases (M.frI b 2) (fun hf => ?_) (fun i hf => ?_)
  · have hu := unpin_none hf
    refine Pre.setV (t := 5) (c := .int .i64 (-1)) rfl (by rw [hf]; rfl) ?_
    refine c_region _ rfl ?_
    refine l_q rfl (q_move rfl rfl) rfl rfl ?_
    refine l_q rfl (q_lss rfl rfl rfl) rfl rfl ?_
    refine l_q rfl (q_move rfl rfl) rfl rfl ?_
    refine Pre.setB (t := 11) (c := true) rfl (rfl) ?_
    refine l_not rfl rfl rfl ?_
    refine l_not rfl rfl rfl ?_
    refine l_not rfl rfl rfl ?_
    refine l_not rfl rfl rfl ?_
    refine l_not rfl rfl rfl ?_
    refine l_not rfl rfl rfl ?_
    refine l_not rfl rfl rfl ?_
    refine l_not rfl rfl rfl ?_
    refine l_not rfl rfl rfl ?_
    refine l_q rfl (q_pick_t rfl rfl rfl) rfl rfl ?_
    refine l_nil ?_
    refine k_then ?_
    refine c_true rfl ?_
    refine c_seq ?_
    refine c_region _ rfl ?_
    refine l_q rfl (q_assign rfl rfl) rfl rfl ?_
    refine l_nil ?_
    refine k_then ?_
    refine c_ret ?_
    refine k_then_ret ?_
    refine r_one rfl rfl ?_
    exact fun _ h => ⟨R, by rw [hu], ⟨by rw [hu]; exact hR, fun _ h => h⟩, by rw [hu]; exact h⟩
  · obtain ⟨hf1, hst⟩ := frI_at hf
    obtain ⟨y, hy, hyb, hys, hya⟩ := find_at hf1
    obtain ⟨f, hfi, hfy⟩ := hR.get hy
    have hlt := (List.getElem?_eq_some_iff.1 hfi).1
    rw [hya, ← hfy] at hst
    rw [← hfy] at hya hys hyb hy
    refine Pre.setV (t := 5) (c := .int .i64 (i : Int)) rfl (by rw [hf]; rfl) ?_
    refine c_region _ rfl ?_
    refine l_q rfl (q_move rfl rfl) rfl rfl ?_
    refine l_q rfl (q_lss rfl rfl rfl) rfl rfl ?_
    refine l_q rfl (q_move rfl rfl) rfl rfl ?_
    refine Pre.setB (t := 11) (c := false) rfl (decide_eq_false (by omega)) ?_
    refine l_q rfl (q_move rfl rfl) rfl rfl ?_
    refine l_q rfl (q_nilCheck rfl rfl) rfl rfl ?_
    refine l_q rfl (q_fieldAddr rfl Try.underlying100 rfl Try.sizeOf97 rfl rfl) rfl rfl ?_
    refine l_q rfl (q_loadC rfl Try.isAgg97 rfl (fun _ h => h.at 0 rfl) rfl) rfl rfl ?_
    refine l_q rfl (q_move rfl rfl) rfl rfl ?_
    refine l_q rfl (q_indexV i rfl Try.underlying97 Try.sizeOf102 rfl (fun _ h => h.rd 1 rfl) rfl rfl (by omega)) rfl rfl ?_
    refine l_q rfl (q_fieldAddr rfl Try.underlying102 rfl Try.sizeOf3 rfl rfl) rfl rfl ?_
    refine l_q rfl (q_loadV i 2 rfl Try.isAgg3 rfl rfl (fun _ h => h.rd 1 rfl) hfi rfl) rfl rfl ?_
    refine l_q rfl (q_eql rfl rfl rfl) rfl rfl ?_
    refine l_q rfl (q_pick_f rfl rfl rfl) rfl rfl ?_
    refine l_nil ?_
    refine k_then ?_
    refine Pre.caseB 21 rfl (fun hp => ?_) (fun hp => ?_)
    · try simp only [decide_eq_true_eq, decide_eq_false_iff_not, Bool.not_eq_true', Bool.not_eq_false'] at hp
      have hu := unpin_zero hf (by rw [hya]; exact hp)
      refine c_true rfl ?_
      refine c_seq ?_
      refine c_region _ rfl ?_
      refine l_q rfl (q_assign rfl rfl) rfl rfl ?_
      refine l_nil ?_
      refine k_then ?_
      refine c_ret ?_
      refine k_then_ret ?_
      refine r_one rfl rfl ?_
      exact fun _ h => ⟨R, by rw [hu], ⟨by rw [hu]; exact hR, fun _ h => h⟩, by rw [hu]; exact h⟩
    · try simp only [decide_eq_true_eq, decide_eq_false_iff_not, Bool.not_eq_true', Bool.not_eq_false'] at hp
      have hu := unpin_some hf (by rw [hya]; exact hp)
      rw [hya] at hu
      have hpb := hO.pins _ (List.mem_of_getElem? hy)
      have hpb1 : 0 ≤ f.pins := hpb.1
      have hpb2 : f.pins ≤ (B : Int) := hpb.2
      refine c_false rfl ?_
      refine c_skip ?_
      refine k_then ?_
      refine c_seq ?_
      refine c_draw [(0, some true), (1, some true), (2, some true), (3, some true), (4, some true), (5, some true), (6, some true), (7, some true), (8, some true), (9, some true), (10, some true), (11, some true), (12, some true), (13, some true), (14, none), (15, none), (16, none)] [14, 15, 16] [(_, some true), (_, some true), (_, some true), (_, some true), (_, some true), (_, some true), (_, some true), (_, some true), (_, some true), (_, some true), (_, some true), (_, some true), (_, some true), (_, some true), (_, none), (_, none), (_, none)] _ (blind_then blind_body) rfl (by kernel_rfl) (by kernel_rfl) rfl rfl rfl (by kernel_rfl) St.drawn (fun _ h => h) ?_
      refine d_q rfl (q_move rfl rfl) rfl rfl ?_
      refine d_q rfl (q_nilCheck rfl rfl) rfl rfl ?_
      refine d_q rfl (q_fieldAddr rfl Try.underlying100 rfl Try.sizeOf97 rfl rfl) rfl rfl ?_
      refine d_q rfl (q_loadC rfl Try.isAgg97 rfl (fun _ h => h.at 0 rfl) rfl) rfl rfl ?_
      refine d_q rfl (q_move rfl rfl) rfl rfl ?_
      refine d_q rfl (q_move rfl rfl) rfl rfl ?_
      refine d_q rfl (q_nilCheck rfl rfl) rfl rfl ?_
      refine d_q rfl (q_fieldAddr rfl Try.underlying100 rfl Try.sizeOf97 rfl rfl) rfl rfl ?_
      refine d_q rfl (q_loadC rfl Try.isAgg97 rfl (fun _ h => h.at 0 rfl) rfl) rfl rfl ?_
      refine d_q rfl (q_move rfl rfl) rfl rfl ?_
      refine d_q rfl (q_indexV i rfl Try.underlying97 Try.sizeOf102 rfl (fun _ h => h.rd 1 rfl) rfl rfl (by omega)) rfl rfl ?_
      refine d_q rfl (q_fieldAddr rfl Try.underlying102 rfl Try.sizeOf3 rfl rfl) rfl rfl ?_
      refine d_q rfl (q_loadV i 2 rfl Try.isAgg3 rfl rfl (fun _ h => h.rd 1 rfl) hfi rfl) rfl rfl ?_
      refine d_q rfl (q_sub64 rfl rfl rfl (by omega)) rfl rfl ?_
      refine d_t rfl ?_
      refine e_q rfl rfl (q_indexV i rfl Try.underlying97 Try.sizeOf102 rfl (fun _ h => h.rd 1 rfl) rfl rfl (by omega)) ?_
      refine d_t rfl ?_
      refine e_q rfl rfl (q_fieldAddr rfl Try.underlying102 rfl Try.sizeOf3 rfl rfl) ?_
      refine pull1 ?_
      refine d_t rfl ?_
      refine e_storeV i 2 (({ f with pins := f.pins - 1 } : FC)) rfl rfl Try.sizeOf3 rfl rfl rfl hfi (by decide) rfl ?_
      refine d_nil ?_
      refine k_then ?_
      refine c_seq ?_
      refine c_region _ rfl ?_
      refine l_q rfl (q_assign rfl rfl) rfl rfl ?_
      refine l_nil ?_
      refine k_then ?_
      refine c_ret ?_
      refine pull3 ?_
      refine pull3 ?_
      refine pull2 ?_
      refine pull3 ?_
      refine r_one rfl rfl ?_
      exact fun _ h => ⟨{ R with fl := R.fl.set i { f with pins := f.pins - 1 } }, by rw [hu], ⟨by rw [hu]; exact hR.put rfl, fun _ hG => hG.set_same hfi rfl⟩, by rw [hu]; exact h⟩
set_option maxRecDepth 100000 in
set_option maxHeartbeats 1000000 in
theorem rset_spec {br : Nat} {R : RS} {M : Mo} {B : Nat} (hR : RelR R M) (hO : M.Ok B) (b : Int) (nv : NV) : Con Try.prog 58 [.pointer (some ⟨br, 0, none⟩), .int .i64 b, .agg nv.c.toArray] (fun _ => True) (R.H br M) (fun R' : RS => .bool (M.setN b nv.leaf nv.l).1) (fun R' => RelR R' (M.setN b nv.leaf nv.l).2 ∧ ∀ G, ((nv.e = sv0 ∧ nv.l = []) ∨ nrow nv ∈ G) → NIn G R.fl → NIn G R'.fl) (fun R' => R'.H br (M.setN b nv.leaf nv.l).2) := by
  intro w hE hH
  refine enter (n := 28) (vs := [.pointer (some ⟨br, 0, none⟩), .int .i64 b, .agg nv.c.toArray]) (St w (dom (R.H br M)) (cellsE br 100 (RS.cells R M) :: rowE (R).vF 102 FC.encR (R).fl :: rowE (R).vL 138 encP (Mo.line M) :: rowE (R).vO 138 encP (Mo.loads M) :: [])) Try.func58 rfl rfl rfl (St.init hH) ?_
  refine c_seq ?_
  have hfl := hR.len
  have h64 := hO.n64
  have hB9 := hO.B9
  have hlB := hO.lB
  have hlL := hO.ll
  refine c_region _ rfl ?_
  refine l_e rfl ?_
  refine e_box rfl rfl rfl rfl ?_
  intro bn
  refine cells_eq (show _ = nv.c from rfl) ?_
  refine l_q rfl (q_assign rfl rfl) rfl rfl ?_
  refine l_nil ?_
  refine k_then ?_
  refine c_seq ?_
  refine c_region _ rfl ?_
  refine l_q rfl (q_move rfl rfl) rfl rfl ?_
  refine l_q rfl (q_move rfl rfl) rfl rfl ?_
  refine l_e rfl ?_
  refine e_call_00 (rready_spec hR hO b) rfl rfl rfl Try.call65 rfl (fun _ h => RC.ofm (R := R) (M := M) h (fun e he => List.mem_cons_of_mem _ (he))) ?_
  intro _ _
  refine l_q rfl (q_assign rfl rfl) rfl rfl ?_
  refine l_nil ?_
  refine k_then ?_
  refine c_seq ?_
  refine c_seq ?_
  refine opt_cases (M.frI b 2) (fun hf => ?_) (fun i hf => ?_)
  · have hu := set_none nv.leaf nv.l hf
    refine Pre.setV (t := 7) (c := .int .i64 (-1)) rfl (by rw [hf]; rfl) ?_
    refine c_region _ rfl ?_
    refine l_q rfl (q_move rfl rfl) rfl rfl ?_
    refine l_q rfl (q_lss rfl rfl rfl) rfl rfl ?_
    refine l_nil ?_
    refine k_then ?_
    refine Pre.setB (t := 12) (c := true) rfl (rfl) ?_
    refine c_true rfl ?_
    refine c_seq ?_
    refine c_region _ rfl ?_
    refine l_q rfl (q_assign rfl rfl) rfl rfl ?_
    refine l_nil ?_
    refine k_then ?_
    refine c_ret ?_
    refine k_then_ret ?_
    refine drop0 ?_
    refine r_one rfl rfl ?_
    exact fun _ h => ⟨R, by rw [hu], ⟨by rw [hu]; exact hR, fun _ _ h => h⟩, by rw [hu]; exact h⟩
  · obtain ⟨hf1, hst⟩ := frI_at hf
    obtain ⟨y, hy, hyb, hys, hya⟩ := find_at hf1
    obtain ⟨f, hfi, hfy⟩ := hR.get hy
    have hlt := (List.getElem?_eq_some_iff.1 hfi).1
    rw [hya, ← hfy] at hst
    rw [← hfy] at hya hys hyb hy
    refine Pre.setV (t := 7) (c := .int .i64 (i : Int)) rfl (by rw [hf]; rfl) ?_
    have hu := set_some nv.leaf nv.l hf
    rw [hya] at hu
    refine c_region _ rfl ?_
    refine l_q rfl (q_move rfl rfl) rfl rfl ?_
    refine l_q rfl (q_lss rfl rfl rfl) rfl rfl ?_
    refine l_nil ?_
    refine k_then ?_
    refine Pre.setB (t := 12) (c := false) rfl (decide_eq_false (by omega)) ?_
    refine c_false rfl ?_
    refine c_skip ?_
    refine k_then ?_
    refine c_seq ?_
    refine c_draw [(0, some true), (1, some true), (2, some true), (3, some true), (4, some true), (5, some true), (6, none), (7, none), (8, none)] [6, 7, 8] [(_, some true), (_, some true), (_, some true), (_, some true), (_, some true), (_, some true), (_, none), (_, none), (_, none)] _ (blind_then blind_body) rfl (by kernel_rfl) (by kernel_rfl) rfl rfl rfl (by kernel_rfl) St.drawn (fun _ h => h) ?_
    refine d_q rfl (q_move rfl rfl) rfl rfl ?_
    refine d_q rfl (q_nilCheck rfl rfl) rfl rfl ?_
    refine d_q rfl (q_fieldAddr rfl Try.underlying100 rfl Try.sizeOf97 rfl rfl) rfl rfl ?_
    refine d_q rfl (q_loadC rfl Try.isAgg97 rfl (fun _ h => h.at 1 rfl) rfl) rfl rfl ?_
    refine d_q rfl (q_move rfl rfl) rfl rfl ?_
    refine d_q rfl (q_loadCAgg (nv.c) rfl Try.isAgg37 Try.sizeOf37 rfl (fun _ h => h.at 0 rfl) (rfl) (rfl)) rfl rfl ?_
    refine d_t rfl ?_
    refine e_q rfl rfl (q_indexV i rfl Try.underlying97 Try.sizeOf102 rfl (fun _ h => h.rd 2 rfl) rfl rfl (by omega)) ?_
    refine d_t rfl ?_
    refine e_q rfl rfl (q_fieldAddr rfl Try.underlying102 rfl Try.sizeOf37 rfl rfl) ?_
    refine pull2 ?_
    refine d_t rfl ?_
    refine e_storeVPart i 5 ({ f with nv := nv } : FC) rfl rfl Try.sizeOf37 rfl rfl rfl hfi rfl (by decide) (NV.one _) (set_nodeR _ _) ?_
    refine d_nil ?_
    refine k_then ?_
    refine c_seq ?_
    have hf2 : (R.fl.set i ({ f with nv := nv } : FC))[i]? = some ({ f with nv := nv } : FC) := List.getElem?_set_self hlt
    have hl2 : (R.fl.set i ({ f with nv := nv } : FC)).length = R.fl.length := List.length_set
    refine c_region _ rfl ?_
    refine l_q rfl (q_move rfl rfl) rfl rfl ?_
    refine l_q rfl (q_nilCheck rfl rfl) rfl rfl ?_
    refine l_q rfl (q_fieldAddr rfl Try.underlying100 rfl Try.sizeOf97 rfl rfl) rfl rfl ?_
    refine l_q rfl (q_loadC rfl Try.isAgg97 rfl (fun _ h => h.at 2 rfl) rfl) rfl rfl ?_
    refine l_q rfl (q_move rfl rfl) rfl rfl ?_
    refine l_q rfl (q_indexV i rfl Try.underlying97 Try.sizeOf102 rfl (fun _ h => h.rd 0 rfl) rfl rfl (by omega)) rfl rfl ?_
    refine l_q rfl (q_fieldAddr rfl Try.underlying102 rfl Try.sizeOf4 rfl rfl) rfl rfl ?_
    refine l_e rfl ?_
    refine e_storeV i 4 (({ f with nv := nv, dirty := true } : FC)) rfl rfl Try.sizeOf4 rfl rfl rfl hf2 (by decide) rfl ?_
    refine l_nil ?_
    refine k_then ?_
    refine c_seq ?_
    refine c_region _ rfl ?_
    refine l_q rfl (q_assign rfl rfl) rfl rfl ?_
    refine l_nil ?_
    refine k_then ?_
    refine c_ret ?_
    refine row_eq (List.set_set ..) ?_
    refine pull1 ?_
    refine drop0 ?_
    refine pull3 ?_
    refine pull3 ?_
    refine pull2 ?_
    refine pull3 ?_
    refine r_one rfl rfl ?_
    exact fun _ h => ⟨{ R with fl := R.fl.set i ({ f with nv := nv, dirty := true } : FC) }, by rw [hu], ⟨by rw [hu]; exact hR.put rfl, fun _ hn hG => hG.set hn⟩, by rw [hu]; exact h⟩
set_option maxRecDepth 100000 in
set_option maxHeartbeats 1000000 in
theorem rfill_spec {br : Nat} {R : RS} {M : Mo} {B : Nat} (hR : RelR R M) (hO : M.Ok B) (b : Int) (nv : NV) : Con Try.prog 53 [.pointer (some ⟨br, 0, none⟩), .int .i64 b, .agg nv.c.toArray] (fun _ => True) (R.H br M) (fun r : RS × Value => .tuple #[r.2, .bool (M.fill b nv.leaf nv.l).1.2]) (fun r => RelR r.1 (M.fill b nv.leaf nv.l).2 ∧ ∀ G, ((nv.e = sv0 ∧ nv.l = []) ∨ nrow nv ∈ G) → NIn G R.fl → NIn G r.1.fl) (fun r => rowE r.2 3 (encI .i64) (M.fill b nv.leaf nv.l).1.1 :: r.1.H br (M.fill b nv.leaf nv.l).2) := by
  intro w hE hH
  refine enter (n := 93) (vs := [.pointer (some ⟨br, 0, none⟩), .int .i64 b, .agg nv.c.toArray]) (St w (dom (R.H br M)) (cellsE br 100 (RS.cells R M) :: rowE (R).vF 102 FC.encR (R).fl :: rowE (R).vL 138 encP (Mo.line M) :: rowE (R).vO 138 encP (Mo.loads M) :: [])) Try.func53 rfl rfl rfl (St.init hH) ?_
  refine c_seq ?_
  have hfl := hR.len
  have h64 := hO.n64
  have hB9 := hO.B9
  have hlB := hO.lB
  have hlL := hO.ll
  refine c_region _ rfl ?_
  refine l_e rfl ?_
  refine e_box rfl rfl rfl rfl ?_
  intro bn
  refine cells_eq (show _ = nv.c from rfl) ?_
  refine l_q rfl (q_assign rfl rfl) rfl rfl ?_
  refine l_q rfl (q_assign rfl rfl) rfl rfl ?_
  refine l_nil ?_
  refine k_then ?_
  refine c_seq ?_
  refine c_region _ rfl ?_
  refine l_q rfl (q_move rfl rfl) rfl rfl ?_
  refine l_q rfl (q_move rfl rfl) rfl rfl ?_
  refine l_e rfl ?_
  refine e_call_00 (rfind_spec hR hO b) rfl rfl rfl Try.call87 rfl (fun _ h => RC.ofm (R := R) (M := M) h (fun e he => List.mem_cons_of_mem _ (he))) ?_
  intro _ _
  refine l_q rfl (q_assign rfl rfl) rfl rfl ?_
  refine l_nil ?_
  refine k_then ?_
  refine c_seq ?_
  refine c_seq ?_
  refine opt_cases (M.find b) (fun hf => ?_) (fun i hf => ?_)
  · have hu := fill_none nv.leaf nv.l (show M.frI b 1 = none by unfold Mo.frI; rw [hf])
    refine Pre.setV (t := 8) (c := .int .i64 (-1)) rfl (by rw [hf]; rfl) ?_
    refine c_region _ rfl ?_
    refine l_q rfl (q_move rfl rfl) rfl rfl ?_
    refine l_e rfl ?_
    refine e_call_00 (rblock_spec b) rfl rfl rfl Try.call85 rfl (fun _ _ => trivial) ?_
    intro _ _
    refine l_q rfl (q_not rfl rfl) rfl rfl ?_
    refine l_q rfl (q_move rfl rfl) rfl rfl ?_
    refine Pre.caseB 18 rfl (fun hb => ?_) (fun hb => ?_)
    · try simp only [Bool.not_eq_true', Bool.not_eq_false'] at hb
      refine l_not rfl rfl rfl ?_
      refine l_not rfl rfl rfl ?_
      refine l_q rfl (q_pick_t rfl rfl rfl) rfl rfl ?_
      refine l_q rfl (q_move rfl rfl) rfl rfl ?_
      refine l_not rfl rfl rfl ?_
      refine l_not rfl rfl rfl ?_
      refine l_not rfl rfl rfl ?_
      refine l_not rfl rfl rfl ?_
      refine l_not rfl rfl rfl ?_
      refine l_not rfl rfl rfl ?_
      refine l_not rfl rfl rfl ?_
      refine l_not rfl rfl rfl ?_
      refine l_not rfl rfl rfl ?_
      refine l_q rfl (q_pick_t rfl rfl rfl) rfl rfl ?_
      refine l_nil ?_
      refine k_then ?_
      refine c_true rfl ?_
      refine c_seq ?_
      refine c_region _ rfl ?_
      refine l_q rfl (q_assign rfl rfl) rfl rfl ?_
      refine l_q rfl (q_assign rfl rfl) rfl rfl ?_
      refine l_nil ?_
      refine k_then ?_
      refine c_ret ?_
      refine k_then_ret ?_
      refine drop0 ?_
      refine row0 3 (encI .i64) none ?_
      refine r_many (rs := [.tmp 6, .tmp 7]) rfl rfl ?_
      exact fun _ h => ⟨(R, nil0), by rw [hu], ⟨by rw [hu]; exact hR, fun _ _ h => h⟩, by rw [hu]; exact h⟩
    · try simp only [Bool.not_eq_true', Bool.not_eq_false'] at hb
      refine l_q rfl (q_move rfl rfl) rfl rfl ?_
      refine l_q rfl (q_lss rfl rfl rfl) rfl rfl ?_
      refine l_q rfl (q_pick_f rfl rfl rfl) rfl rfl ?_
      refine l_q rfl (q_move rfl rfl) rfl rfl ?_
      refine Pre.setB (t := 22) (c := true) rfl (rfl) ?_
      refine l_not rfl rfl rfl ?_
      refine l_not rfl rfl rfl ?_
      refine l_not rfl rfl rfl ?_
      refine l_not rfl rfl rfl ?_
      refine l_not rfl rfl rfl ?_
      refine l_not rfl rfl rfl ?_
      refine l_not rfl rfl rfl ?_
      refine l_not rfl rfl rfl ?_
      refine l_not rfl rfl rfl ?_
      refine l_q rfl (q_pick_t rfl rfl rfl) rfl rfl ?_
      refine l_nil ?_
      refine k_then ?_
      refine c_true rfl ?_
      refine c_seq ?_
      refine c_region _ rfl ?_
      refine l_q rfl (q_assign rfl rfl) rfl rfl ?_
      refine l_q rfl (q_assign rfl rfl) rfl rfl ?_
      refine l_nil ?_
      refine k_then ?_
      refine c_ret ?_
      refine k_then_ret ?_
      refine drop0 ?_
      refine row0 3 (encI .i64) none ?_
      refine r_many (rs := [.tmp 6, .tmp 7]) rfl rfl ?_
      exact fun _ h => ⟨(R, nil0), by rw [hu], ⟨by rw [hu]; exact hR, fun _ _ h => h⟩, by rw [hu]; exact h⟩
  · obtain ⟨y, hy, hyb, hys, hya⟩ := find_at hf
    obtain ⟨f, hfi, hfy⟩ := hR.get hy
    have hlt := (List.getElem?_eq_some_iff.1 hfi).1
    have hst : (M.at' i).st = f.st := by rw [hya, ← hfy]; rfl
    have hbk := find_bk hO hf
    rw [← hfy] at hya hys hyb hy
    refine Pre.setV (t := 8) (c := .int .i64 (i : Int)) rfl (by rw [hf]; rfl) ?_
    refine c_region _ rfl ?_
    refine l_q rfl (q_move rfl rfl) rfl rfl ?_
    refine l_e rfl ?_
    refine e_call_00 (rblock_spec b) rfl rfl rfl Try.call85 rfl (fun _ _ => trivial) ?_
    intro _ _
    refine l_q rfl (q_not rfl rfl) rfl rfl ?_
    refine l_q rfl (q_move rfl rfl) rfl rfl ?_
    refine Pre.setB (t := 18) (c := false) rfl (by rw [hbk]; rfl) ?_
    refine l_q rfl (q_move rfl rfl) rfl rfl ?_
    refine l_q rfl (q_lss rfl rfl rfl) rfl rfl ?_
    refine l_q rfl (q_pick_f rfl rfl rfl) rfl rfl ?_
    refine l_q rfl (q_move rfl rfl) rfl rfl ?_
    refine Pre.setB (t := 22) (c := false) rfl (decide_eq_false (by omega)) ?_
    refine l_q rfl (q_move rfl rfl) rfl rfl ?_
    refine l_q rfl (q_nilCheck rfl rfl) rfl rfl ?_
    refine l_q rfl (q_fieldAddr rfl Try.underlying100 rfl Try.sizeOf97 rfl rfl) rfl rfl ?_
    refine l_q rfl (q_loadC rfl Try.isAgg97 rfl (fun _ h => h.at 1 rfl) rfl) rfl rfl ?_
    refine l_q rfl (q_move rfl rfl) rfl rfl ?_
    refine l_q rfl (q_indexV i rfl Try.underlying97 Try.sizeOf102 rfl (fun _ h => h.rd 2 rfl) rfl rfl (by omega)) rfl rfl ?_
    refine l_q rfl (q_fieldAddr rfl Try.underlying102 rfl Try.sizeOf3 rfl rfl) rfl rfl ?_
    refine l_q rfl (q_loadV i 0 rfl Try.isAgg3 rfl rfl (fun _ h => h.rd 2 rfl) hfi rfl) rfl rfl ?_
    refine l_q rfl (q_neq rfl rfl rfl) rfl rfl ?_
    refine l_q rfl (q_pick_f rfl rfl rfl) rfl rfl ?_
    refine l_nil ?_
    refine k_then ?_
    refine Pre.caseB 32 rfl (fun hs => ?_) (fun hs => ?_)
    · try simp only [decide_eq_true_eq, decide_eq_false_iff_not, Bool.not_eq_true', Bool.not_eq_false'] at hs
      have hu := fill_none nv.leaf nv.l (show M.frI b 1 = none by unfold Mo.frI; rw [hf]; simp only; rw [if_neg (by rw [hst]; exact hs)])
      refine c_true rfl ?_
      refine c_seq ?_
      refine c_region _ rfl ?_
      refine l_q rfl (q_assign rfl rfl) rfl rfl ?_
      refine l_q rfl (q_assign rfl rfl) rfl rfl ?_
      refine l_nil ?_
      refine k_then ?_
      refine c_ret ?_
      refine k_then_ret ?_
      refine drop0 ?_
      refine row0 3 (encI .i64) none ?_
      refine r_many (rs := [.tmp 6, .tmp 7]) rfl rfl ?_
      exact fun _ h => ⟨(R, nil0), by rw [hu], ⟨by rw [hu]; exact hR, fun _ _ h => h⟩, by rw [hu]; exact h⟩
    · try simp only [decide_eq_true_eq, decide_eq_false_iff_not, Bool.not_eq_true', Bool.not_eq_false'] at hs
      have hu := fill_some nv.leaf nv.l (show M.frI b 1 = some i by unfold Mo.frI; rw [hf]; simp only; rw [if_pos (by rw [hst]; exact hs)])
      rw [hya] at hu
      refine c_false rfl ?_
      refine c_skip ?_
      refine k_then ?_
      refine c_seq ?_
      refine c_region _ rfl ?_
      refine l_q rfl (q_move rfl rfl) rfl rfl ?_
      refine l_q rfl (q_nilCheck rfl rfl) rfl rfl ?_
      refine l_q rfl (q_fieldAddr rfl Try.underlying100 rfl Try.sizeOf97 rfl rfl) rfl rfl ?_
      refine l_q rfl (q_loadC rfl Try.isAgg97 rfl (fun _ h => h.at 1 rfl) rfl) rfl rfl ?_
      refine l_q rfl (q_move rfl rfl) rfl rfl ?_
      refine l_q rfl (q_indexV i rfl Try.underlying97 Try.sizeOf102 rfl (fun _ h => h.rd 2 rfl) rfl rfl (by omega)) rfl rfl ?_
      refine l_q rfl (q_fieldAddr rfl Try.underlying102 rfl Try.sizeOf3 rfl rfl) rfl rfl ?_
      refine pull2 ?_
      refine l_e rfl ?_
      refine e_storeV i 0 (({ f with st := 2 } : FC)) rfl rfl Try.sizeOf3 rfl rfl rfl hfi (by decide) rfl ?_
      refine l_nil ?_
      refine k_then ?_
      refine c_seq ?_
      have hf2 : (R.fl.set i ({ f with st := 2 } : FC))[i]? = some ({ f with st := 2 } : FC) := List.getElem?_set_self hlt
      have hl2 : (R.fl.set i ({ f with st := 2 } : FC)).length = R.fl.length := List.length_set
      refine c_draw [(0, some true), (1, some true), (2, some true), (3, some true), (4, some true), (5, some true), (6, none), (7, none), (8, none)] [6, 7, 8] [(_, some true), (_, some true), (_, some true), (_, some true), (_, some true), (_, some true), (_, none), (_, none), (_, none)] _ (blind_then blind_body) rfl (by kernel_rfl) (by kernel_rfl) rfl rfl rfl (by kernel_rfl) St.drawn (fun _ h => h) ?_
      refine d_q rfl (q_move rfl rfl) rfl rfl ?_
      refine d_q rfl (q_nilCheck rfl rfl) rfl rfl ?_
      refine d_q rfl (q_fieldAddr rfl Try.underlying100 rfl Try.sizeOf97 rfl rfl) rfl rfl ?_
      refine d_q rfl (q_loadC rfl Try.isAgg97 rfl (fun _ h => h.at 2 rfl) rfl) rfl rfl ?_
      refine d_q rfl (q_move rfl rfl) rfl rfl ?_
      refine d_q rfl (q_loadCAgg (nv.c) rfl Try.isAgg37 Try.sizeOf37 rfl (fun _ h => h.at 1 rfl) (rfl) (rfl)) rfl rfl ?_
      refine d_t rfl ?_
      refine e_q rfl rfl (q_indexV i rfl Try.underlying97 Try.sizeOf102 rfl (fun _ h => h.rd 0 rfl) rfl rfl (by omega)) ?_
      refine d_t rfl ?_
      refine e_q rfl rfl (q_fieldAddr rfl Try.underlying102 rfl Try.sizeOf37 rfl rfl) ?_
      refine d_t rfl ?_
      refine e_storeVPart i 5 ({ f with st := 2, nv := nv } : FC) rfl rfl Try.sizeOf37 rfl rfl rfl hf2 rfl (by decide) (NV.one _) (set_nodeR _ _) ?_
      refine d_nil ?_
      refine k_then ?_
      refine c_seq ?_
      refine row_eq (List.set_set ..) ?_
      refine c_region _ rfl ?_
      refine l_q rfl (q_assign rfl rfl) rfl rfl ?_
      refine l_nil ?_
      refine k_then ?_
      refine c_seq ?_
      refine c_region _ rfl ?_
      refine l_q rfl (q_assign rfl rfl) rfl rfl ?_
      refine l_nil ?_
      refine k_then ?_
      refine c_seq ?_
      refine c_seq ?_
      refine c_region _ rfl ?_
      refine l_q rfl (q_assign rfl rfl) rfl rfl ?_
      refine l_nil ?_
      refine k_then ?_
      refine c_block ?_
      refine row0 3 (encI .i64) none ?_
      refine row0 138 encP none ?_
      refine pull3 ?_
      refine drop0 ?_
      refine pull5 ?_
      refine pull5 ?_
      refine pull4 ?_
      refine pull5 ?_
      refine pull4 ?_
      refine pull5 ?_
      refine c_loop3 (fun (j : Nat) (v1 : Value) (v2 : Value) => [(0, .pointer (some ⟨br, 0, none⟩)), (1, .int .i64 b), (9, v1), (10, v2), (11, .int .i64 (j : Int))]) (fun (j : Nat) (v1 : Value) (v2 : Value) => St w (dom (R.H br M)) (rowE v1 3 (encI .i64) (((M.loads.take j).filter (fun q => decide (q.2 = b))).map Prod.fst) :: rowE v2 138 encP ((M.loads.take j).filter (fun q => !decide (q.2 = b))) :: cellsE br 100 (RS.cells { R with fl := R.fl.set i ({ f with st := 2, nv := nv } : FC) } M) :: rowE ({ R with fl := R.fl.set i ({ f with st := 2, nv := nv } : FC) }).vF 102 FC.encR ({ R with fl := R.fl.set i ({ f with st := 2, nv := nv } : FC) }).fl :: rowE ({ R with fl := R.fl.set i ({ f with st := 2, nv := nv } : FC) }).vL 138 encP (Mo.line M) :: rowE ({ R with fl := R.fl.set i ({ f with st := 2, nv := nv } : FC) }).vO 138 encP (Mo.loads M) :: [])) (fun (j : Nat) (v1 : Value) (v2 : Value) => j ≤ M.loads.length) (fun (j : Nat) (v1 : Value) (v2 : Value) => M.loads.length - j) (0) (.slice none 0 0) (.slice none 0 0) (Nat.zero_le _) (Sub.cons rfl (Sub.cons rfl (Sub.cons rfl (Sub.cons rfl (Sub.cons rfl (Sub.nil)))))) (fun _ h => by dsimp only; rw [List.take_zero]; exact h) ?_
      intro j v1 v2 hj
      refine c_seq ?_
      refine c_seq ?_
      have hm1 : (((M.loads.take j).filter (fun q => decide (q.2 = b))).map Prod.fst).length ≤ j := by rw [List.length_map]; exact Nat.le_trans (List.length_filter_le _ _) (List.length_take_le _ _)
      have hm2 : ((M.loads.take j).filter (fun q => !decide (q.2 = b))).length ≤ j := Nat.le_trans (List.length_filter_le _ _) (List.length_take_le _ _)
      refine c_region _ rfl ?_
      refine l_q rfl (q_move rfl rfl) rfl rfl ?_
      refine l_q rfl (q_move rfl rfl) rfl rfl ?_
      refine l_q rfl (q_nilCheck rfl rfl) rfl rfl ?_
      refine l_q rfl (q_fieldAddr rfl Try.underlying100 rfl Try.sizeOf98 rfl rfl) rfl rfl ?_
      refine l_q rfl (q_loadC rfl Try.isAgg98 rfl (fun _ h => h.at 2 rfl) rfl) rfl rfl ?_
      refine l_q rfl (q_lenV rfl Try.underlying98 rfl (fun _ h => h.rd 5 rfl)) rfl rfl ?_
      refine l_q rfl (q_lss rfl rfl rfl) rfl rfl ?_
      refine l_nil ?_
      refine k_then ?_
      refine Pre.caseB 54 rfl (fun h1 => ?_) (fun h1 => ?_)
      · try simp only [decide_eq_true_eq, decide_eq_false_iff_not, Bool.not_eq_true', Bool.not_eq_false'] at h1
        obtain ⟨x, hoj⟩ : ∃ x, M.loads[j]? = some x := ⟨_, List.getElem?_eq_getElem (by omega)⟩
        have hs1 := filter_snoc (p := fun q : Int × Int => decide (q.2 = b)) hoj
        have hs2 := filter_snocN (p := fun q : Int × Int => decide (q.2 = b)) hoj
        refine c_true rfl ?_
        refine c_skip ?_
        refine k_then ?_
        refine c_seq ?_
        refine c_block ?_
        refine c_seq ?_
        refine c_region _ rfl ?_
        refine l_q rfl (q_move rfl rfl) rfl rfl ?_
        refine l_q rfl (q_nilCheck rfl rfl) rfl rfl ?_
        refine l_q rfl (q_fieldAddr rfl Try.underlying100 rfl Try.sizeOf98 rfl rfl) rfl rfl ?_
        refine l_q rfl (q_loadC rfl Try.isAgg98 rfl (fun _ h => h.at 2 rfl) rfl) rfl rfl ?_
        refine l_q rfl (q_move rfl rfl) rfl rfl ?_
        refine l_q rfl (q_indexV j rfl Try.underlying98 Try.sizeOf138 rfl (fun _ h => h.rd 5 rfl) rfl rfl (by omega)) rfl rfl ?_
        refine l_q rfl (q_fieldAddr rfl Try.underlying138 rfl Try.sizeOf3 rfl rfl) rfl rfl ?_
        refine l_q rfl (q_loadV j 1 rfl Try.isAgg3 rfl rfl (fun _ h => h.rd 5 rfl) hoj rfl) rfl rfl ?_
        refine l_q rfl (q_move rfl rfl) rfl rfl ?_
        refine l_q rfl (q_eql rfl rfl rfl) rfl rfl ?_
        refine l_nil ?_
        refine k_then ?_
        refine Pre.caseB 66 rfl (fun h2 => ?_) (fun h2 => ?_)
        · try simp only [decide_eq_true_eq, decide_eq_false_iff_not, Bool.not_eq_true', Bool.not_eq_false'] at h2
          rw [if_pos (decide_eq_true h2)] at hs1 hs2
          rw [List.append_nil] at hs2
          refine c_true rfl ?_
          refine c_region _ rfl ?_
          refine l_q rfl (q_move rfl rfl) rfl rfl ?_
          refine l_q rfl (q_move rfl rfl) rfl rfl ?_
          refine l_q rfl (q_nilCheck rfl rfl) rfl rfl ?_
          refine l_q rfl (q_fieldAddr rfl Try.underlying100 rfl Try.sizeOf98 rfl rfl) rfl rfl ?_
          refine l_q rfl (q_loadC rfl Try.isAgg98 rfl (fun _ h => h.at 2 rfl) rfl) rfl rfl ?_
          refine l_q rfl (q_move rfl rfl) rfl rfl ?_
          refine l_q rfl (q_indexV j rfl Try.underlying98 Try.sizeOf138 rfl (fun _ h => h.rd 5 rfl) rfl rfl (by omega)) rfl rfl ?_
          refine l_q rfl (q_fieldAddr rfl Try.underlying138 rfl Try.sizeOf3 rfl rfl) rfl rfl ?_
          refine l_q rfl (q_loadV j 0 rfl Try.isAgg3 rfl rfl (fun _ h => h.rd 5 rfl) hoj rfl) rfl rfl ?_
          refine l_e rfl ?_
          refine e_buildSliceV (sz := 1) [.tmp 75] rfl rfl rfl rfl rfl Try.underlying28 Try.sizeOf3 rfl Try.zeroValue3 rfl ?_
          intro b2
          refine pull1 ?_
          refine l_e rfl ?_
          refine e_append rfl rfl rfl Try.underlying28 Try.underlying28 info3 rfl rfl rfl rfl rfl (fun _ h => lit_rd (h.at 1 rfl) (encI .i64) [x.1] rfl rfl) (by simp only [byt3, List.length_append, List.length_cons, List.length_nil]; omega) (by simp only [List.length_append, List.length_cons, List.length_nil]; omega) ?_
          intro v3
          refine row_eq (show _ = (((M.loads.take j).filter (fun q => decide (q.2 = b))) ++ [x]).map Prod.fst from by rw [List.map_append]; rfl) ?_
          refine pull1 ?_
          refine drop0 ?_
          refine l_q rfl (q_assign rfl rfl) rfl rfl ?_
          refine l_nil ?_
          refine k_block ?_
          refine k_then ?_
          refine c_region _ rfl ?_
          refine l_q rfl (q_move rfl rfl) rfl rfl ?_
          refine l_q rfl (q_inc rfl rfl rfl (by omega)) rfl rfl ?_
          refine l_q rfl (q_assign rfl rfl) rfl rfl ?_
          refine l_nil ?_
          refine pull5 ?_
          refine pull5 ?_
          refine pull5 ?_
          refine pull5 ?_
          refine pull5 ?_
          refine pull5 ?_
          exact k_round ((j + 1, v3, v2)) (by dsimp only; omega) (by dsimp only; omega) (Sub.cons rfl (Sub.cons rfl (Sub.cons rfl (Sub.cons rfl (Sub.cons rfl (Sub.nil)))))) (fun _ h => by dsimp only; rw [hs1, hs2]; exact h)
        · try simp only [decide_eq_true_eq, decide_eq_false_iff_not, Bool.not_eq_true', Bool.not_eq_false'] at h2
          rw [if_neg (fun e => h2 (of_decide_eq_true e))] at hs1 hs2
          rw [List.append_nil] at hs1
          refine c_false rfl ?_
          refine c_region _ rfl ?_
          refine l_q rfl (q_move rfl rfl) rfl rfl ?_
          refine l_q rfl (q_move rfl rfl) rfl rfl ?_
          refine l_q rfl (q_nilCheck rfl rfl) rfl rfl ?_
          refine l_q rfl (q_fieldAddr rfl Try.underlying100 rfl Try.sizeOf98 rfl rfl) rfl rfl ?_
          refine l_q rfl (q_loadC rfl Try.isAgg98 rfl (fun _ h => h.at 2 rfl) rfl) rfl rfl ?_
          refine l_q rfl (q_move rfl rfl) rfl rfl ?_
          refine l_q rfl (q_indexV j rfl Try.underlying98 Try.sizeOf138 rfl (fun _ h => h.rd 5 rfl) rfl rfl (by omega)) rfl rfl ?_
          refine l_q rfl (q_loadVAgg j rfl Try.isAgg138 Try.sizeOf138 rfl rfl (fun _ h => h.rd 5 rfl) hoj) rfl rfl ?_
          refine l_e rfl ?_
          refine e_buildSliceV (sz := 2) [.tmp 85] rfl rfl rfl rfl rfl Try.underlying98 Try.sizeOf138 rfl Try.zeroValue138 rfl ?_
          intro b3
          refine pull2 ?_
          refine l_e rfl ?_
          refine e_append rfl rfl rfl Try.underlying98 Try.underlying98 info138 rfl rfl rfl rfl rfl (fun _ h => lit_rd (h.at 1 rfl) encP [x] rfl rfl) (by simp only [byt138, List.length_append, List.length_cons, List.length_nil]; omega) (by simp only [List.length_append, List.length_cons, List.length_nil]; omega) ?_
          intro v3
          refine pull1 ?_
          refine drop0 ?_
          refine l_q rfl (q_assign rfl rfl) rfl rfl ?_
          refine l_nil ?_
          refine k_block ?_
          refine k_then ?_
          refine c_region _ rfl ?_
          refine l_q rfl (q_move rfl rfl) rfl rfl ?_
          refine l_q rfl (q_inc rfl rfl rfl (by omega)) rfl rfl ?_
          refine l_q rfl (q_assign rfl rfl) rfl rfl ?_
          refine l_nil ?_
          refine pull5 ?_
          refine pull5 ?_
          refine pull5 ?_
          refine pull5 ?_
          refine pull4 ?_
          refine pull5 ?_
          exact k_round ((j + 1, v1, v3)) (by dsimp only; omega) (by dsimp only; omega) (Sub.cons rfl (Sub.cons rfl (Sub.cons rfl (Sub.cons rfl (Sub.cons rfl (Sub.nil)))))) (fun _ h => by dsimp only; rw [hs1, hs2]; exact h)
      · try simp only [decide_eq_true_eq, decide_eq_false_iff_not, Bool.not_eq_true', Bool.not_eq_false'] at h1
        rw [List.take_of_length_le (show M.loads.length ≤ j by omega)]
        refine Pre.fact (fun _ h => rd_sv (h.rd 1 rfl)) ?_
        rintro ⟨sv, rfl⟩
        refine c_false rfl ?_
        refine c_exit ?_
        refine k_then_exit ?_
        refine k_then_exit ?_
        refine k_block_exit ?_
        refine k_then ?_
        refine c_seq ?_
        refine c_region _ rfl ?_
        refine l_q rfl (q_move rfl rfl) rfl rfl ?_
        refine l_q rfl (q_move rfl rfl) rfl rfl ?_
        refine l_q rfl (q_nilCheck rfl rfl) rfl rfl ?_
        refine l_q rfl (q_fieldAddr rfl Try.underlying100 rfl Try.sizeOf98 rfl rfl) rfl rfl ?_
        refine pull2 ?_
        refine l_e rfl ?_
        refine e_store rfl rfl Try.sizeOf98 rfl rfl rfl (Nat.le_of_ble_eq_true rfl) ?_
        refine cells_eq (show _ = RS.cells { R with vO := sv.v, fl := R.fl.set i ({ f with st := 2, nv := nv } : FC) } M from rfl) ?_
        refine l_nil ?_
        refine k_then ?_
        refine c_seq ?_
        refine c_region _ rfl ?_
        refine l_q rfl (q_move rfl rfl) rfl rfl ?_
        refine l_q rfl (q_assign rfl rfl) rfl rfl ?_
        refine l_q rfl (q_assign rfl rfl) rfl rfl ?_
        refine l_nil ?_
        refine k_then ?_
        refine c_ret ?_
        refine pull5 ?_
        refine drop0 ?_
        refine pull2 ?_
        refine pull4 ?_
        refine pull4 ?_
        refine pull3 ?_
        refine pull4 ?_
        refine r_many (rs := [.tmp 6, .tmp 7]) rfl rfl ?_
        exact fun _ h => ⟨({ R with vO := sv.v, fl := R.fl.set i ({ f with st := 2, nv := nv } : FC) }, v1), by rw [hu], ⟨by rw [hu]; exact hR.put (f' := ({ f with st := 2, nv := nv } : FC)) (vw_fill hs), fun _ hn hG => hG.set hn⟩, by rw [hu]; exact h⟩
end Go.Proofs.Ytpfbagkjhchojaa
