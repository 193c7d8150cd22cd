/- the reference cache: Evict -/
import Derived.Test.YtpfbagkjhchojaaV
set_option linter.unusedVariables false
set_option linter.unusedSimpArgs false
namespace Go.Proofs.Ytpfbagkjhchojaa
open Go.Sep Go.RowKit

theorem can_eqR {R : RS} {M : Mo} (h : RelR R M) : M.can = R.fl.map canF := by unfold Mo.can; rw [← h, List.map_map]; rfl
theorem rfs_eqR {R : RS} {M : Mo} (h : RelR R M) : M.rfs = R.fl.map FC.ref := by unfold Mo.rfs; rw [← h, List.map_map]; rfl
theorem RelR.evict {R : RS} {M : Mo} (h : RelR R M) {k : Nat} {f : FC} (hs : (swM M.can M.rfs M.hand).1 = some k) (hf : R.fl[k]? = some f) : RelR { R with fl := (reF R.fl (swM M.can M.rfs M.hand).2).set k fZ } M.evict.2 := by
  rw [evict_some hs (h.vw_at hf)]
  show ((reF R.fl (swM M.can M.rfs M.hand).2).set k fZ).map vw = _
  rw [List.map_set, re_map, h]; rfl

set_option maxRecDepth 100000 in
set_option maxHeartbeats 1000000 in
theorem revict_spec {br : Nat} {R : RS} {M : Mo} {B : Nat} (hR : RelR R M) (hO : M.Ok B) : Con Try.prog 59 [.pointer (some ⟨br, 0, none⟩)] (fun _ => True) (R.H br M) (fun r : RS × FC => .tuple #[.int .i64 (swP M.can M.rfs M.hand), .agg r.2.cR.toArray]) (fun r => RelR r.1 M.evict.2 ∧ (∀ G, NIn G R.fl → NIn G r.1.fl ∧ ((r.2.nv.e = sv0 ∧ r.2.nv.l = []) ∨ nrow r.2.nv ∈ G)) ∧ ∀ f, M.evict.1 = some f → vw r.2 = f) (fun r => r.1.H br M.evict.2) := by
  intro w hE hH
  refine enter (n := 109) (vs := [.pointer (some ⟨br, 0, none⟩)]) (St w (dom (R.H br M)) (cellsE br 100 (RS.cells R M) :: rowE (R).vF 102 FC.encR (R).fl :: rowE (R).vL 138 encP (Mo.line M) :: rowE (R).vO 138 encP (Mo.loads M) :: [])) Try.func59 rfl rfl rfl (St.init hH) ?_
  refine c_seq ?_
  have hfl := hR.len
  have h64 := hO.n64
  have hB9 := hO.B9
  have hlB := hO.lB
  have hlL := hO.ll
  have h1n := hO.n1
  refine c_region _ rfl ?_
  refine l_q rfl (q_assign rfl rfl) rfl rfl ?_
  refine l_e rfl ?_
  refine e_alloc rfl rfl rfl Try.zeroValue102 ?_
  intro bo
  refine cells_eq (show _ = f00.cR from rfl) ?_
  refine l_nil ?_
  refine k_then ?_
  refine c_seq ?_
  refine c_region _ rfl ?_
  refine l_q rfl (q_assign rfl rfl) rfl rfl ?_
  refine l_q rfl (q_assign rfl rfl) rfl rfl ?_
  refine l_nil ?_
  refine k_then ?_
  refine c_seq ?_
  refine c_seq ?_
  refine c_region _ rfl ?_
  refine l_q rfl (q_assign rfl rfl) rfl rfl ?_
  refine l_nil ?_
  refine k_then ?_
  refine c_block ?_
  refine row0 4 encB none ?_
  refine row0 4 encB none ?_
  refine c_loop3 (fun (i : Nat) (v1 : Value) (v2 : Value) => [(0, .pointer (some ⟨br, 0, none⟩)), (3, .pointer (some ⟨bo, 0, none⟩)), (4, v1), (5, v2), (6, .int .i64 (i : Int))]) (fun (i : Nat) (v1 : Value) (v2 : Value) => St w (dom (R.H br M)) (rowE v1 4 encB ((R.fl.take i).map canF) :: rowE v2 4 encB ((R.fl.take i).map FC.ref) :: cellsE bo 102 f00.cR :: cellsE br 100 (RS.cells R M) :: rowE (R).vF 102 FC.encR (R).fl :: rowE (R).vL 138 encP (Mo.line M) :: rowE (R).vO 138 encP (Mo.loads M) :: [])) (fun (i : Nat) (v1 : Value) (v2 : Value) => i ≤ R.fl.length) (fun (i : Nat) (v1 : Value) (v2 : Value) => R.fl.length - i) (0) (.slice none 0 0) (.slice none 0 0) (Nat.zero_le _) (Sub.cons rfl (Sub.cons rfl (Sub.cons rfl (Sub.cons rfl (Sub.cons rfl (Sub.nil)))))) (fun _ h => h) ?_
  intro i v1 v2 hi
  refine c_seq ?_
  refine c_seq ?_
  have hcl : ((R.fl.take i).map canF).length ≤ i := by rw [List.length_map, List.length_take]; omega
  have hrl : ((R.fl.take i).map FC.ref).length ≤ i := by rw [List.length_map, List.length_take]; omega
  refine c_region _ rfl ?_
  refine l_q rfl (q_move rfl rfl) rfl rfl ?_
  refine l_q rfl (q_move rfl rfl) rfl rfl ?_
  refine l_q rfl (q_nilCheck rfl rfl) rfl rfl ?_
  refine l_q rfl (q_fieldAddr rfl Try.underlying100 rfl Try.sizeOf97 rfl rfl) rfl rfl ?_
  refine l_q rfl (q_loadC rfl Try.isAgg97 rfl (fun _ h => h.at 3 rfl) rfl) rfl rfl ?_
  refine l_q rfl (q_lenV rfl Try.underlying97 rfl (fun _ h => h.rd 4 rfl)) rfl rfl ?_
  refine l_q rfl (q_lss rfl rfl rfl) rfl rfl ?_
  refine l_nil ?_
  refine k_then ?_
  refine Pre.caseB 18 rfl (fun h1 => ?_) (fun h1 => ?_)
  · try simp only [decide_eq_true_eq, decide_eq_false_iff_not, Bool.not_eq_true', Bool.not_eq_false'] at h1
    obtain ⟨f, hfi⟩ : ∃ f, R.fl[i]? = some f := ⟨_, List.getElem?_eq_getElem (by omega)⟩
    have hcs : ((R.fl.take i).map canF) ++ [canF f] = ((R.fl.take (i + 1)).map canF) := by rw [List.take_add_one, hfi, List.map_append]; rfl
    have hrs : ((R.fl.take i).map FC.ref) ++ [f.ref] = ((R.fl.take (i + 1)).map FC.ref) := by rw [List.take_add_one, hfi, List.map_append]; rfl
    refine c_true rfl ?_
    refine c_skip ?_
    refine k_then ?_
    refine c_seq ?_
    refine c_block ?_
    refine c_seq ?_
    refine c_region _ rfl ?_
    refine l_q rfl (q_move rfl rfl) rfl rfl ?_
    refine l_q rfl (q_move rfl rfl) rfl rfl ?_
    refine l_q rfl (q_nilCheck rfl rfl) rfl rfl ?_
    refine l_q rfl (q_fieldAddr rfl Try.underlying100 rfl Try.sizeOf97 rfl rfl) rfl rfl ?_
    refine l_q rfl (q_loadC rfl Try.isAgg97 rfl (fun _ h => h.at 3 rfl) rfl) rfl rfl ?_
    refine l_q rfl (q_move rfl rfl) rfl rfl ?_
    refine l_q rfl (q_indexV i rfl Try.underlying97 Try.sizeOf102 rfl (fun _ h => h.rd 4 rfl) rfl rfl (by omega)) rfl rfl ?_
    refine l_q rfl (q_fieldAddr rfl Try.underlying102 rfl Try.sizeOf3 rfl rfl) rfl rfl ?_
    refine l_q rfl (q_loadV i 0 rfl Try.isAgg3 rfl rfl (fun _ h => h.rd 4 rfl) hfi rfl) rfl rfl ?_
    refine l_q rfl (q_eql rfl rfl rfl) rfl rfl ?_
    refine l_q rfl (q_move rfl rfl) rfl rfl ?_
    refine Pre.caseB 31 rfl (fun h2 => ?_) (fun h2 => ?_)
    · try simp only [decide_eq_true_eq, decide_eq_false_iff_not, Bool.not_eq_true', Bool.not_eq_false'] at h2
      have hcf : canF f = decide (f.pins = 0) := by unfold canF; rw [decide_eq_true h2, Bool.true_and]
      rw [hcf] at hcs
      refine l_q rfl (q_move rfl rfl) rfl rfl ?_
      refine l_q rfl (q_nilCheck rfl rfl) rfl rfl ?_
      refine l_q rfl (q_fieldAddr rfl Try.underlying100 rfl Try.sizeOf97 rfl rfl) rfl rfl ?_
      refine l_q rfl (q_loadC rfl Try.isAgg97 rfl (fun _ h => h.at 3 rfl) rfl) rfl rfl ?_
      refine l_q rfl (q_move rfl rfl) rfl rfl ?_
      refine l_q rfl (q_indexV i rfl Try.underlying97 Try.sizeOf102 rfl (fun _ h => h.rd 4 rfl) rfl rfl (by omega)) rfl rfl ?_
      refine l_q rfl (q_fieldAddr rfl Try.underlying102 rfl Try.sizeOf3 rfl rfl) rfl rfl ?_
      refine l_q rfl (q_loadV i 2 rfl Try.isAgg3 rfl rfl (fun _ h => h.rd 4 rfl) hfi rfl) rfl rfl ?_
      refine l_q rfl (q_eql rfl rfl rfl) rfl rfl ?_
      refine l_q rfl (q_pick_t rfl rfl rfl) rfl rfl ?_
      refine l_e rfl ?_
      refine e_buildSliceV (sz := 1) [.tmp 41] rfl rfl rfl rfl rfl Try.underlying49 Try.sizeOf4 rfl Try.zeroValue4 rfl ?_
      intro b1
      refine pull1 ?_
      refine l_e rfl ?_
      refine e_append rfl rfl rfl Try.underlying49 Try.underlying49 info4 rfl rfl rfl rfl rfl (fun _ h => lit_rd (h.at 1 rfl) encB [(decide (f.pins = 0))] rfl rfl) (by simp only [byt4, List.length_append, List.length_cons, List.length_nil]; omega) (by simp only [List.length_append, List.length_cons, List.length_nil]; omega) ?_
      intro vk
      refine row_eq (hcs) ?_
      refine pull1 ?_
      refine drop0 ?_
      refine l_q rfl (q_assign rfl rfl) rfl rfl ?_
      refine l_nil ?_
      refine k_then ?_
      refine c_region _ rfl ?_
      refine l_q rfl (q_move rfl rfl) rfl rfl ?_
      refine l_q rfl (q_move rfl rfl) rfl rfl ?_
      refine l_q rfl (q_nilCheck rfl rfl) rfl rfl ?_
      refine l_q rfl (q_fieldAddr rfl Try.underlying100 rfl Try.sizeOf97 rfl rfl) rfl rfl ?_
      refine l_q rfl (q_loadC rfl Try.isAgg97 rfl (fun _ h => h.at 3 rfl) rfl) rfl rfl ?_
      refine l_q rfl (q_move rfl rfl) rfl rfl ?_
      refine l_q rfl (q_indexV i rfl Try.underlying97 Try.sizeOf102 rfl (fun _ h => h.rd 4 rfl) rfl rfl (by omega)) rfl rfl ?_
      refine l_q rfl (q_fieldAddr rfl Try.underlying102 rfl Try.sizeOf4 rfl rfl) rfl rfl ?_
      refine l_q rfl (q_loadV i 3 rfl Try.isAgg4 rfl rfl (fun _ h => h.rd 4 rfl) hfi rfl) rfl rfl ?_
      refine l_e rfl ?_
      refine e_buildSliceV (sz := 1) [.tmp 52] rfl rfl rfl rfl rfl Try.underlying49 Try.sizeOf4 rfl Try.zeroValue4 rfl ?_
      intro b2
      refine pull2 ?_
      refine l_e rfl ?_
      refine e_append rfl rfl rfl Try.underlying49 Try.underlying49 info4 rfl rfl rfl rfl rfl (fun _ h => lit_rd (h.at 1 rfl) encB [f.ref] rfl rfl) (by simp only [byt4, List.length_append, List.length_cons, List.length_nil]; omega) (by simp only [List.length_append, List.length_cons, List.length_nil]; omega) ?_
      intro vr
      refine row_eq (hrs) ?_
      refine pull1 ?_
      refine drop0 ?_
      refine l_q rfl (q_assign rfl rfl) rfl rfl ?_
      refine l_nil ?_
      refine k_block ?_
      refine k_then ?_
      refine c_region _ rfl ?_
      refine l_q rfl (q_move rfl rfl) rfl rfl ?_
      refine l_q rfl (q_inc rfl rfl rfl (by omega)) rfl rfl ?_
      refine l_q rfl (q_assign rfl rfl) rfl rfl ?_
      refine l_nil ?_
      refine pull2 ?_
      refine pull5 ?_
      refine pull5 ?_
      refine pull5 ?_
      refine pull3 ?_
      refine pull4 ?_
      refine pull5 ?_
      exact k_round ((i + 1, vk, vr)) (by dsimp only; omega) (by dsimp only; omega) (Sub.cons rfl (Sub.cons rfl (Sub.cons rfl (Sub.cons rfl (Sub.cons rfl (Sub.nil)))))) (fun _ h => h)
    · try simp only [decide_eq_true_eq, decide_eq_false_iff_not, Bool.not_eq_true', Bool.not_eq_false'] at h2
      have hcf : canF f = false := by unfold canF; rw [decide_eq_false h2, Bool.false_and]
      rw [hcf] at hcs
      refine l_not rfl rfl rfl ?_
      refine l_not rfl rfl rfl ?_
      refine l_not rfl rfl rfl ?_
      refine l_not rfl rfl rfl ?_
      refine l_not rfl rfl rfl ?_
      refine l_not rfl rfl rfl ?_
      refine l_not rfl rfl rfl ?_
      refine l_not rfl rfl rfl ?_
      refine l_not rfl rfl rfl ?_
      refine l_q rfl (q_pick_f rfl rfl rfl) rfl rfl ?_
      refine l_e rfl ?_
      refine e_buildSliceV (sz := 1) [.tmp 41] rfl rfl rfl rfl rfl Try.underlying49 Try.sizeOf4 rfl Try.zeroValue4 rfl ?_
      intro b3
      refine pull1 ?_
      refine l_e rfl ?_
      refine e_append rfl rfl rfl Try.underlying49 Try.underlying49 info4 rfl rfl rfl rfl rfl (fun _ h => lit_rd (h.at 1 rfl) encB [false] rfl rfl) (by simp only [byt4, List.length_append, List.length_cons, List.length_nil]; omega) (by simp only [List.length_append, List.length_cons, List.length_nil]; omega) ?_
      intro vk
      refine row_eq (hcs) ?_
      refine pull1 ?_
      refine drop0 ?_
      refine l_q rfl (q_assign rfl rfl) rfl rfl ?_
      refine l_nil ?_
      refine k_then ?_
      refine c_region _ rfl ?_
      refine l_q rfl (q_move rfl rfl) rfl rfl ?_
      refine l_q rfl (q_move rfl rfl) rfl rfl ?_
      refine l_q rfl (q_nilCheck rfl rfl) rfl rfl ?_
      refine l_q rfl (q_fieldAddr rfl Try.underlying100 rfl Try.sizeOf97 rfl rfl) rfl rfl ?_
      refine l_q rfl (q_loadC rfl Try.isAgg97 rfl (fun _ h => h.at 3 rfl) rfl) rfl rfl ?_
      refine l_q rfl (q_move rfl rfl) rfl rfl ?_
      refine l_q rfl (q_indexV i rfl Try.underlying97 Try.sizeOf102 rfl (fun _ h => h.rd 4 rfl) rfl rfl (by omega)) rfl rfl ?_
      refine l_q rfl (q_fieldAddr rfl Try.underlying102 rfl Try.sizeOf4 rfl rfl) rfl rfl ?_
      refine l_q rfl (q_loadV i 3 rfl Try.isAgg4 rfl rfl (fun _ h => h.rd 4 rfl) hfi rfl) rfl rfl ?_
      refine l_e rfl ?_
      refine e_buildSliceV (sz := 1) [.tmp 52] rfl rfl rfl rfl rfl Try.underlying49 Try.sizeOf4 rfl Try.zeroValue4 rfl ?_
      intro b4
      refine pull2 ?_
      refine l_e rfl ?_
      refine e_append rfl rfl rfl Try.underlying49 Try.underlying49 info4 rfl rfl rfl rfl rfl (fun _ h => lit_rd (h.at 1 rfl) encB [f.ref] rfl rfl) (by simp only [byt4, List.length_append, List.length_cons, List.length_nil]; omega) (by simp only [List.length_append, List.length_cons, List.length_nil]; omega) ?_
      intro vr
      refine row_eq (hrs) ?_
      refine pull1 ?_
      refine drop0 ?_
      refine l_q rfl (q_assign rfl rfl) rfl rfl ?_
      refine l_nil ?_
      refine k_block ?_
      refine k_then ?_
      refine c_region _ rfl ?_
      refine l_q rfl (q_move rfl rfl) rfl rfl ?_
      refine l_q rfl (q_inc rfl rfl rfl (by omega)) rfl rfl ?_
      refine l_q rfl (q_assign rfl rfl) rfl rfl ?_
      refine l_nil ?_
      refine pull2 ?_
      refine pull5 ?_
      refine pull5 ?_
      refine pull5 ?_
      refine pull3 ?_
      refine pull4 ?_
      refine pull5 ?_
      exact k_round ((i + 1, vk, vr)) (by dsimp only; omega) (by dsimp only; omega) (Sub.cons rfl (Sub.cons rfl (Sub.cons rfl (Sub.cons rfl (Sub.cons rfl (Sub.nil)))))) (fun _ h => h)
  · try simp only [decide_eq_true_eq, decide_eq_false_iff_not, Bool.not_eq_true', Bool.not_eq_false'] at h1
    have hce : ((R.fl.take i).map canF) = M.can := by rw [List.take_of_length_le (by omega), can_eqR hR]
    have hre : ((R.fl.take i).map FC.ref) = M.rfs := by rw [List.take_of_length_le (by omega), rfs_eqR hR]
    rw [hce, hre]
    have hcn : M.can.length = M.fr.length := List.length_map ..
    have hrn : M.rfs.length = M.fr.length := List.length_map ..
    refine c_false rfl ?_
    refine c_exit ?_
    refine k_then_exit ?_
    refine k_then_exit ?_
    refine k_block_exit ?_
    refine k_then ?_
    refine c_seq ?_
    refine c_region _ rfl ?_
    refine l_q rfl (q_move rfl rfl) rfl rfl ?_
    refine l_q rfl (q_move rfl rfl) rfl rfl ?_
    refine l_q rfl (q_move rfl rfl) rfl rfl ?_
    refine l_q rfl (q_nilCheck rfl rfl) rfl rfl ?_
    refine l_q rfl (q_fieldAddr rfl Try.underlying100 rfl Try.sizeOf3 rfl rfl) rfl rfl ?_
    refine l_q rfl (q_loadC rfl Try.isAgg3 rfl (fun _ h => h.at 3 rfl) rfl) rfl rfl ?_
    have hne : M.can ≠ [] := fun e => by rw [e] at hcn; simp at hcn; omega
    obtain ⟨left, hlf⟩ : ∃ l, l = (swM M.can M.rfs M.hand).2 := ⟨_, rfl⟩
    have hll : left.length = M.fr.length := by rw [hlf, left_len (by omega) hne, hcn]
    refine l_e rfl ?_
    refine e_call_01 (rsweep_spec M.can M.rfs M.hand hO.hw (by omega)) rfl rfl rfl Try.call49 rfl (fun _ h => ⟨h.rd 0 rfl, h.rd 1 rfl⟩) ?_
    intro vl _
    rw [← hlf]
    refine l_q rfl (q_move rfl rfl) rfl rfl ?_
    refine l_q rfl (q_extract rfl rfl rfl) rfl rfl ?_
    refine l_q rfl (q_extract rfl rfl rfl) rfl rfl ?_
    refine l_q rfl (q_extract rfl rfl rfl) rfl rfl ?_
    refine l_q rfl (q_assign rfl rfl) rfl rfl ?_
    refine l_q rfl (q_assign rfl rfl) rfl rfl ?_
    refine l_q rfl (q_assign rfl rfl) rfl rfl ?_
    refine l_nil ?_
    refine k_then ?_
    refine c_seq ?_
    refine c_seq ?_
    refine opt_cases ((swM M.can M.rfs M.hand).1) (fun hs => ?_) (fun k hs => ?_)
    · have hu := evict_none hs
      refine Pre.setV (t := 7) (c := .int .i64 (-1)) rfl (by unfold swP; rw [hs]) ?_
      refine c_region _ rfl ?_
      refine l_q rfl (q_move rfl rfl) rfl rfl ?_
      refine l_q rfl (q_lss rfl rfl rfl) rfl rfl ?_
      refine l_nil ?_
      refine k_then ?_
      refine Pre.setB (t := 67) (c := true) rfl (rfl) ?_
      refine c_true rfl ?_
      refine c_seq ?_
      refine c_region _ rfl ?_
      refine l_q rfl (q_build (f00.cR) rfl rfl (fun w => by kernel_rfl)) rfl rfl ?_
      refine l_q rfl (q_assign rfl rfl) rfl rfl ?_
      refine pull3 ?_
      refine l_e rfl ?_
      refine e_storeAgg rfl rfl Try.sizeOf102 rfl rfl rfl (FC.oneR _) (by show 0 + 11 ≤ 11; decide) ?_
      refine cells_eq (show Sep.splice _ 0 (f00).cR = (f00).cR from Sep.splice_all rfl) ?_
      refine l_nil ?_
      refine k_then ?_
      refine c_ret ?_
      refine k_then_ret ?_
      refine pull1 ?_
      refine drop0 ?_
      refine pull1 ?_
      refine drop0 ?_
      refine pull1 ?_
      refine drop0 ?_
      refine pull3 ?_
      refine pull3 ?_
      refine pull3 ?_
      refine pull3 ?_
      refine r_res2 rfl (show Sep.look _ _ = some _ from rfl) (res_cellA rfl Try.isAgg102 Try.sizeOf102 (fun _ h => h.at 0 rfl) (rfl)) ?_
      exact fun _ h => ⟨(R, f00), by rw [show swP M.can M.rfs M.hand = _ from by unfold swP; rw [hs]], ⟨by rw [hu]; exact hR, fun G hG => ⟨hG, .inl ⟨rfl, rfl⟩⟩, fun f hf => by rw [hu] at hf; cases hf⟩, by rw [hu]; exact h.drop⟩
    · obtain ⟨hck, hkl, _⟩ := sw_can hs
      have hkf : k < R.fl.length := by omega
      obtain ⟨f, hfk⟩ : ∃ f, R.fl[k]? = some f := ⟨_, List.getElem?_eq_getElem hkf⟩
      have hyk := hR.vw_at hfk
      have hu := evict_some hs hyk
      obtain ⟨hsp, hsn⟩ := sw_some hs
      refine Pre.setV (t := 7) (c := .int .i64 (k : Int)) rfl (by rw [hsp]) ?_
      refine c_region _ rfl ?_
      refine l_q rfl (q_move rfl rfl) rfl rfl ?_
      refine l_q rfl (q_lss rfl rfl rfl) rfl rfl ?_
      refine l_nil ?_
      refine k_then ?_
      refine Pre.setB (t := 67) (c := false) rfl (decide_eq_false (by omega)) ?_
      refine c_false rfl ?_
      refine c_skip ?_
      refine k_then ?_
      refine c_seq ?_
      refine c_region _ rfl ?_
      refine l_q rfl (q_move rfl rfl) rfl rfl ?_
      refine l_q rfl (q_nilCheck rfl rfl) rfl rfl ?_
      refine l_q rfl (q_fieldAddr rfl Try.underlying100 rfl Try.sizeOf97 rfl rfl) rfl rfl ?_
      refine l_q rfl (q_loadC rfl Try.isAgg97 rfl (fun _ h => h.at 4 rfl) rfl) rfl rfl ?_
      refine l_q rfl (q_move rfl rfl) rfl rfl ?_
      refine l_q rfl (q_indexV k rfl Try.underlying97 Try.sizeOf102 rfl (fun _ h => h.rd 5 rfl) rfl rfl (by omega)) rfl rfl ?_
      refine l_q rfl (q_loadVAgg k rfl Try.isAgg102 Try.sizeOf102 rfl rfl (fun _ h => h.rd 5 rfl) hfk) rfl rfl ?_
      refine l_e rfl ?_
      refine e_alloc rfl rfl rfl Try.zeroValue102 ?_
      intro bg
      refine cells_eq (show _ = f00.cR from rfl) ?_
      refine l_e rfl ?_
      refine e_storeAgg rfl rfl Try.sizeOf102 rfl rfl rfl (FC.oneR _) (by show 0 + 11 ≤ 11; decide) ?_
      refine cells_eq (show Sep.splice _ 0 (f).cR = (f).cR from Sep.splice_all rfl) ?_
      refine l_nil ?_
      refine k_then ?_
      refine c_seq ?_
      refine c_seq ?_
      refine c_region _ rfl ?_
      refine l_q rfl (q_assign rfl rfl) rfl rfl ?_
      refine l_nil ?_
      refine k_then ?_
      refine c_block ?_
      have hlf2 : left.length = R.fl.length := by omega
      have hgl := reF_len hlf2
      refine pull2 ?_
      refine drop0 ?_
      refine pull2 ?_
      refine drop0 ?_
      refine pull2 ?_
      refine pull5 ?_
      refine pull5 ?_
      refine pull5 ?_
      refine pull3 ?_
      refine pull4 ?_
      refine pull5 ?_
      refine c_loop1 (fun (i : Nat) => [(0, .pointer (some ⟨br, 0, none⟩)), (3, .pointer (some ⟨bo, 0, none⟩)), (7, .int .i64 (k : Int)), (8, .int .i64 (swN M.can M.rfs M.hand)), (9, vl), (10, .pointer (some ⟨bg, 0, none⟩)), (11, .int .i64 (i : Int))]) (fun (i : Nat) => St w (dom (R.H br M)) (rowE vl 4 encB left :: cellsE bg 102 f.cR :: cellsE bo 102 f00.cR :: cellsE br 100 (RS.cells R M) :: rowE (R).vF 102 FC.encR ((reF R.fl left).take i ++ R.fl.drop i) :: rowE (R).vL 138 encP (Mo.line M) :: rowE (R).vO 138 encP (Mo.loads M) :: [])) (fun (i : Nat) => i ≤ R.fl.length) (fun (i : Nat) => R.fl.length - i) (0) (Nat.zero_le _) (Sub.cons rfl (Sub.cons rfl (Sub.cons rfl (Sub.cons rfl (Sub.cons rfl (Sub.cons rfl (Sub.cons rfl (Sub.nil)))))))) (fun _ h => h) ?_
      intro i hi
      refine c_seq ?_
      refine c_seq ?_
      have hmx : ((reF R.fl left).take i ++ R.fl.drop i).length = R.fl.length := by rw [List.length_append, List.length_take, List.length_drop]; omega
      refine c_region _ rfl ?_
      refine l_q rfl (q_move rfl rfl) rfl rfl ?_
      refine l_q rfl (q_move rfl rfl) rfl rfl ?_
      refine l_q rfl (q_nilCheck rfl rfl) rfl rfl ?_
      refine l_q rfl (q_fieldAddr rfl Try.underlying100 rfl Try.sizeOf97 rfl rfl) rfl rfl ?_
      refine l_q rfl (q_loadC rfl Try.isAgg97 rfl (fun _ h => h.at 3 rfl) rfl) rfl rfl ?_
      refine l_q rfl (q_lenV rfl Try.underlying97 rfl (fun _ h => h.rd 4 rfl)) rfl rfl ?_
      refine l_q rfl (q_lss rfl rfl rfl) rfl rfl ?_
      refine l_nil ?_
      refine k_then ?_
      refine Pre.caseB 82 rfl (fun h3 => ?_) (fun h3 => ?_)
      · try simp only [decide_eq_true_eq, decide_eq_false_iff_not, Bool.not_eq_true', Bool.not_eq_false'] at h3
        refine c_true rfl ?_
        refine c_skip ?_
        refine k_then ?_
        refine c_seq ?_
        refine c_block ?_
        obtain ⟨g, hgi⟩ : ∃ g, R.fl[i]? = some g := ⟨_, List.getElem?_eq_getElem (by omega)⟩
        obtain ⟨lb, hlb⟩ : ∃ b, left[i]? = some b := ⟨_, List.getElem?_eq_getElem (by omega)⟩
        have hmg := mix_get (gl := reF R.fl left) hgi hgl
        have hms := mix_step (fl := R.fl) (reF_get hgi hlb) hgl
        refine c_draw [(0, some true), (1, some true), (2, some true), (3, some true), (4, some true), (5, some true), (6, some true), (7, some true), (8, some true), (9, none), (10, none), (11, none)] [9, 10, 11] [(_, some true), (_, some true), (_, some true), (_, some true), (_, some true), (_, some true), (_, some true), (_, some true), (_, some true), (_, none), (_, none), (_, none)] (fun w2 => (cellsE br 100 (RS.cells R M)).at w2 ∧ RdV w2 vl encB left ∧ RdV w2 R.vF FC.encR ((reF R.fl left).take i ++ R.fl.drop i)) (blind_block (blind_then (blind_then (blind_block (blind_then blind_body))))) rfl (by kernel_rfl) (by kernel_rfl) rfl rfl rfl (by kernel_rfl) St.drawn (fun _ h => ⟨h.at 3 rfl, h.rd 0 rfl, h.rd 4 rfl⟩) ?_
        refine d_q rfl (q_move rfl rfl) rfl rfl ?_
        refine d_q rfl (q_nilCheck rfl rfl) rfl rfl ?_
        refine d_q rfl (q_fieldAddr rfl Try.underlying100 rfl Try.sizeOf97 rfl rfl) rfl rfl ?_
        refine d_q rfl (q_loadC rfl Try.isAgg97 rfl (fun _ h => h.1) rfl) rfl rfl ?_
        refine d_q rfl (q_move rfl rfl) rfl rfl ?_
        refine d_q rfl (q_move rfl rfl) rfl rfl ?_
        refine d_q rfl (q_move rfl rfl) rfl rfl ?_
        refine d_q rfl (q_indexV i rfl Try.underlying49 Try.sizeOf4 rfl (fun _ h => h.2.1) rfl rfl (by omega)) rfl rfl ?_
        refine d_q rfl (q_loadV i 0 rfl Try.isAgg4 rfl rfl (fun _ h => h.2.1) hlb rfl) rfl rfl ?_
        refine d_t rfl ?_
        refine e_q rfl rfl (q_indexV i rfl Try.underlying97 Try.sizeOf102 rfl (fun _ h => h.rd 4 rfl) rfl rfl (by omega)) ?_
        refine d_t rfl ?_
        refine e_q rfl rfl (q_fieldAddr rfl Try.underlying102 rfl Try.sizeOf4 rfl rfl) ?_
        refine pull4 ?_
        refine d_t rfl ?_
        refine e_storeV i 3 (({ g with ref := lb } : FC)) rfl rfl Try.sizeOf4 rfl rfl rfl hmg (by decide) rfl ?_
        refine d_nil ?_
        refine k_block ?_
        refine k_then ?_
        refine c_region _ rfl ?_
        refine l_q rfl (q_move rfl rfl) rfl rfl ?_
        refine l_q rfl (q_inc rfl rfl rfl (by omega)) rfl rfl ?_
        refine l_q rfl (q_assign rfl rfl) rfl rfl ?_
        refine l_nil ?_
        refine row_eq hms ?_
        refine pull3 ?_
        refine pull5 ?_
        refine pull2 ?_
        refine pull5 ?_
        refine pull3 ?_
        refine pull5 ?_
        refine pull5 ?_
        exact k_round (i + 1) (by omega) (by omega) (Sub.cons rfl (Sub.cons rfl (Sub.cons rfl (Sub.cons rfl (Sub.cons rfl (Sub.cons rfl (Sub.cons rfl (Sub.nil)))))))) (fun _ h => h)
      · try simp only [decide_eq_true_eq, decide_eq_false_iff_not, Bool.not_eq_true', Bool.not_eq_false'] at h3
        have hfin : ((reF R.fl left).take i ++ R.fl.drop i) = reF R.fl left := by rw [List.take_of_length_le (by omega), List.drop_eq_nil_of_le (by omega), List.append_nil]
        rw [hfin]
        obtain ⟨lb, hlb⟩ : ∃ b, left[k]? = some b := ⟨_, List.getElem?_eq_getElem (by omega)⟩
        have hgk := reF_get hfk hlb
        refine c_false rfl ?_
        refine c_exit ?_
        refine k_then_exit ?_
        refine k_then_exit ?_
        refine k_block_exit ?_
        refine k_then ?_
        refine c_seq ?_
        refine c_region _ rfl ?_
        refine l_q rfl (q_move rfl rfl) rfl rfl ?_
        refine l_q rfl (q_nilCheck rfl rfl) rfl rfl ?_
        refine l_q rfl (q_fieldAddr rfl Try.underlying100 rfl Try.sizeOf97 rfl rfl) rfl rfl ?_
        refine l_q rfl (q_loadC rfl Try.isAgg97 rfl (fun _ h => h.at 3 rfl) rfl) rfl rfl ?_
        refine l_q rfl (q_move rfl rfl) rfl rfl ?_
        refine l_q rfl (q_build (fZ.cR) rfl rfl (fun w => by kernel_rfl)) rfl rfl ?_
        refine l_q rfl (q_indexV k rfl Try.underlying97 Try.sizeOf102 rfl (fun _ h => h.rd 4 rfl) rfl rfl (by omega)) rfl rfl ?_
        refine pull4 ?_
        refine l_e rfl ?_
        refine e_storeVAgg k fZ rfl rfl Try.sizeOf102 rfl rfl rfl rfl (by omega) ?_
        refine l_nil ?_
        refine k_then ?_
        refine c_seq ?_
        refine c_region _ rfl ?_
        refine l_q rfl (q_move rfl rfl) rfl rfl ?_
        refine l_q rfl (q_move rfl rfl) rfl rfl ?_
        refine l_q rfl (q_nilCheck rfl rfl) rfl rfl ?_
        refine l_q rfl (q_fieldAddr rfl Try.underlying100 rfl Try.sizeOf3 rfl rfl) rfl rfl ?_
        refine pull4 ?_
        refine l_e rfl ?_
        refine e_store rfl rfl Try.sizeOf3 rfl rfl rfl (Nat.le_of_ble_eq_true rfl) ?_
        refine cells_eq (show _ = RS.cells ({ R with fl := (reF R.fl left).set k fZ } : RS) ({ M with fr := (Mo.reref M.fr (swM M.can M.rfs M.hand).2).set k free0, hand := swN M.can M.rfs M.hand } : Mo) from rfl) ?_
        refine l_nil ?_
        refine k_then ?_
        refine c_seq ?_
        refine c_draw [(0, some true), (1, some true), (2, some true), (3, none)] [3] [(_, some true), (_, some true), (_, some true), (_, none)] _ (blind_then blind_body) rfl (by kernel_rfl) (by kernel_rfl) rfl rfl rfl (by kernel_rfl) St.drawn (fun _ h => h) ?_
        refine d_q rfl (q_move rfl rfl) rfl rfl ?_
        refine d_q rfl (q_loadCAgg (f.cR) rfl Try.isAgg102 Try.sizeOf102 rfl (fun _ h => h.at 3 rfl) (rfl) (rfl)) rfl rfl ?_
        refine d_q rfl (q_assign rfl rfl) rfl rfl ?_
        refine pull4 ?_
        refine d_t rfl ?_
        refine e_storeAgg rfl rfl Try.sizeOf102 rfl rfl rfl (FC.oneR _) (by show 0 + 11 ≤ 11; decide) ?_
        refine cells_eq (show Sep.splice _ 0 (f).cR = (f).cR from Sep.splice_all rfl) ?_
        refine d_nil ?_
        refine k_then ?_
        refine c_ret ?_
        refine pull4 ?_
        refine drop0 ?_
        refine pull3 ?_
        refine drop0 ?_
        refine pull3 ?_
        refine pull3 ?_
        refine pull3 ?_
        refine pull3 ?_
        refine r_res2 rfl (show Sep.look _ _ = some _ from rfl) (res_cellA rfl Try.isAgg102 Try.sizeOf102 (fun _ h => h.at 0 rfl) (rfl)) ?_
        refine fun _ h => ⟨(({ R with fl := (reF R.fl left).set k fZ } : RS), f), by rw [hsp], ⟨by rw [hlf]; exact hR.evict hs hfk, fun G hG => ⟨?_, hG f (List.mem_of_getElem? hfk)⟩, fun g hg => ?_⟩, by rw [hu]; exact h.drop⟩
        · refine NIn.set (fun g hg => ?_) (.inl ⟨rfl, rfl⟩)
          unfold reF at hg
          obtain ⟨p, hp, rfl⟩ := List.mem_map.1 hg
          exact hG p.1 (List.of_mem_zip hp).1
        · rw [hu] at hg; cases hg; rfl
end Go.Proofs.Ytpfbagkjhchojaa
