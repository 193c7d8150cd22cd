/- cache: nodes, frames; the line -/
import Derived.Test.YtpfbagkjhchojaaE
set_option linter.unusedVariables false
set_option linter.unusedSimpArgs false
namespace Go.Proofs.Ytpfbagkjhchojaa
open Go.Sep Go.RowKit

/-! ## Turning the cache -/
theorem CR.ofm {w0 w : World} {D : List Nat} {bc : Nat} {S : CS} {H : List Ent} (h : St w0 D H w) (hs : ∀ e ∈ S.H bc, e ∈ H) : CR w bc S := by
  have at' : ∀ e, e ∈ S.H bc → e.at w := fun e he => h.hp.holds e (hs e he)
  have m0 : ∀ e (k : Nat), (S.H bc)[k]? = some e → e.at w := fun e k hk => at' e (List.mem_of_getElem? hk)
  exact ⟨m0 _ 0 rfl, rowE_rd (m0 _ 1 rfl), m0 _ 2 rfl, m0 _ 3 rfl, rowE_rd (m0 _ 4 rfl), fun q hq => rowE_rd (at' _ (List.mem_append_right _ (List.mem_map.2 ⟨q, hq, rfl⟩)))⟩
/-- The line alone is another. -/
theorem Rel.line {S : CS} {M : Mo} (h : Rel S M) (v : Value) (l : List (Int × Int)) : Rel { S with vL := v, ln := l.map wn } { M with line := l } := ⟨h.fr, rfl, h.hd, h.at', h.ld, h.nd, h.na⟩
theorem nodup_erase {l : List (Int × Int)} (h : (l.map Prod.fst).Nodup) (i : Nat) : ((l.eraseIdx i).map Prod.fst).Nodup := h.sublist ((List.eraseIdx_sublist ..).map _)
theorem Mo.Ok.mono {M : Mo} {B C : Nat} (h : M.Ok B) (hBC : B ≤ C) (hC : C ≤ 60000) : M.Ok C :=
  ⟨h.n1, h.n64, h.st, h.none', h.blk, h.own, h.own0, fun f hf => ⟨(h.pins f hf).1, Int.le_trans (h.pins f hf).2 (by omega)⟩, h.uni, Nat.le_trans h.ll hBC, Nat.le_trans h.lB hBC, h.ln, h.lb, h.lo, h.es, h.hw, hC⟩
theorem leave_line (M : Mo) (t : Int) : M.leave t = { M with line := (M.leave t).line } := rfl
theorem leave_ok {M : Mo} {B : Nat} (h : M.Ok B) (t : Int) : (M.leave t).Ok B := by
  refine ⟨h.n1, h.n64, h.st, h.none', h.blk, h.own, h.own0, h.pins, h.uni, h.ll, ?_, ?_, ?_, h.lo, h.es, h.hw, h.B9⟩
  · show (M.leave t).line.length ≤ B
    unfold Mo.leave
    simp only
    split
    · exact Nat.le_trans (List.length_eraseIdx_le ..) h.lB
    · exact h.lB
  · show ((M.leave t).line.map Prod.fst).Nodup
    unfold Mo.leave
    simp only
    split
    · exact nodup_erase h.ln _
    · exact h.ln
  · intro q hq
    refine h.lb q ?_
    have hq' : q ∈ (M.leave t).line := hq
    unfold Mo.leave at hq'
    simp only at hq'
    split at hq'
    · exact (List.eraseIdx_sublist ..).subset hq'
    · exact hq'
theorem ask_ok {M : Mo} {B : Nat} (h : M.Ok B) (t b : Int) (hb : -1 ≤ b ∧ b < 256) (hB : B + 1 ≤ 60000) : (M.ask t b).Ok (B + 1) := by
  have h' := h.mono (Nat.le_succ B) hB
  refine ⟨h.n1, h.n64, h.st, h.none', h.blk, h.own, h.own0, h'.pins, h.uni, h'.ll, ?_, ?_, ?_, h.lo, h.es, h.hw, hB⟩
  · show (M.ask t b).line.length ≤ B + 1
    unfold Mo.ask
    simp only
    split
    · rw [List.length_append]; have := h.lB; simp; omega
    · have := h.lB; omega
  · show ((M.ask t b).line.map Prod.fst).Nodup
    unfold Mo.ask
    simp only
    split
    · rename_i hs
      rw [List.map_append, List.nodup_append]
      refine ⟨h.ln, by simp, fun a ha c hc e => ?_⟩
      simp only [List.map_cons, List.map_nil, List.mem_singleton] at hc
      subst hc; subst e
      obtain ⟨q, hq, rfl⟩ := List.mem_map.1 ha
      have := fst1_no (Option.isNone_iff_eq_none.1 hs) q hq
      simp [isT] at this
    · exact h.ln
  · intro q hq
    have hq' : q ∈ (M.ask t b).line := hq
    unfold Mo.ask at hq'
    simp only at hq'
    split at hq'
    · rcases List.mem_append.1 hq' with hq' | hq'
      · exact h.lb q hq'
      · simp only [List.mem_singleton] at hq'; subst hq'; exact hb
    · exact h.lb q hq'
theorem erase_wn (l : List (Int × Int)) (i : Nat) : (l.map wn).eraseIdx i = (l.eraseIdx i).map wn := (eraseIdx_map' wn l i).symm

set_option maxRecDepth 100000 in
set_option maxHeartbeats 1000000 in
theorem node_spec {bc : Nat} {S : CS} {M : Mo} {B : Nat} (hR : Rel S M) (hO : M.Ok B) (b : Int) : Con Try.prog 32 [.pointer (some ⟨bc, 0, none⟩), .int .i64 b] (fun w => CR w bc S ∧ NR w S) [] (fun s : Sv => .tuple #[.agg (⟨(M.node b).1.1, s, (M.node b).1.2⟩ : NV).c.toArray, .bool (M.node b).2]) (fun _ => True) (fun s => [rowE s.v 121 En.enc (M.node b).1.2]) := by
  intro w hE hH
  obtain ⟨hC, hN⟩ := hE
  refine enter (n := 18) (vs := [.pointer (some ⟨bc, 0, none⟩), .int .i64 b]) (St w [] []) Try.func32 rfl rfl rfl (St.init hH) ?_
  refine c_seq ?_
  refine c_region _ rfl ?_
  refine l_e rfl ?_
  refine e_alloc rfl rfl rfl Try.zeroValue37 ?_
  intro bo
  refine cells_eq (show _ = nv0.c from rfl) ?_
  refine l_q rfl (q_assign rfl rfl) rfl rfl ?_
  refine l_nil ?_
  refine k_then ?_
  refine c_seq ?_
  refine c_region _ rfl ?_
  refine l_q rfl (q_move rfl rfl) rfl rfl ?_
  refine l_q rfl (q_move rfl rfl) rfl rfl ?_
  refine l_e rfl ?_
  refine e_call_00 (frame_spec hR hO b 2) rfl rfl rfl Try.call46 rfl (fun _ h => CR.keep hC h) ?_
  intro _ _
  refine l_q rfl (q_assign rfl rfl) rfl rfl ?_
  refine l_nil ?_
  refine k_then ?_
  refine c_seq ?_
  refine c_seq ?_
  refine opt_cases (M.frI b 2) (fun hf => ?_) (fun i hf => ?_)
  · refine Pre.setV (t := 6) (c := .pointer none) rfl (by rw [hf]; rfl) ?_
    refine c_region _ rfl ?_
    refine l_q rfl (q_move rfl rfl) rfl rfl ?_
    refine l_q rfl (q_eqp rfl Try.underlying85 rfl rfl) rfl rfl ?_
    refine l_nil ?_
    refine k_then ?_
    refine Pre.setB (t := 11) (c := true) rfl (rfl) ?_
    refine c_true rfl ?_
    refine c_seq ?_
    refine c_region _ rfl ?_
    refine l_q rfl (q_build (nv0.c) rfl rfl (fun w => by kernel_rfl)) rfl rfl ?_
    refine l_e rfl ?_
    refine e_storeAgg rfl rfl Try.sizeOf37 rfl rfl rfl (NV.one _) (by show 0 + 5 ≤ 5; decide) ?_
    refine cells_eq (show Sep.splice _ 0 (nv0).c = (nv0).c from Sep.splice_all rfl) ?_
    refine l_q rfl (q_assign rfl rfl) rfl rfl ?_
    refine l_nil ?_
    refine k_then ?_
    refine c_ret ?_
    refine k_then_ret ?_
    refine row0 121 En.enc none ?_
    refine r_res2 rfl (res_cellA rfl Try.isAgg37 Try.sizeOf37 (fun _ h => h.at 1 rfl) (rfl)) (show Sep.look _ _ = some _ from rfl) ?_
    exact fun _ h => ⟨sv0, by rw [node_none hf]; rfl, trivial, by rw [node_none hf]; exact h.sublist (List.cons_sublist_cons.2 (List.nil_sublist _))⟩
  · obtain ⟨hf1, hst⟩ := frI_at hf
    obtain ⟨y, hy, hyb, hys, hya⟩ := find_at hf1
    obtain ⟨f, hfi, hfy⟩ := hR.get hy
    have hlt := (List.getElem?_eq_some_iff.1 hfi).1
    have hnd := node_some hf
    rw [hya, ← hfy] at hnd
    have hfm := List.mem_of_getElem? hfi
    have hes : f.nv.l.length ≤ 65536 := by
      have := hO.es y (List.mem_of_getElem? hy)
      rw [← hfy] at this; exact Nat.le_trans this (by decide)
    refine Pre.setV (t := 6) (c := fp S.vF i) rfl (by rw [hf]; rfl) ?_
    refine c_region _ rfl ?_
    refine l_q rfl (q_move rfl rfl) rfl rfl ?_
    refine l_q rfl (q_eqp rfl Try.underlying85 rfl rfl) rfl rfl ?_
    refine l_nil ?_
    refine k_then ?_
    refine Pre.setB (t := 11) (c := false) rfl (rfl) ?_
    refine c_false rfl ?_
    refine c_skip ?_
    refine k_then ?_
    refine c_seq ?_
    refine c_region _ rfl ?_
    refine l_q rfl (q_move rfl rfl) rfl rfl ?_
    refine l_q rfl (q_nilCheck rfl rfl) rfl rfl ?_
    refine l_q rfl (q_fieldAddr rfl Try.underlying80 rfl Try.sizeOf37 rfl rfl) rfl rfl ?_
    refine l_q rfl (q_loadVPart i 6 rfl Try.isAgg37 Try.sizeOf37 rfl rfl (fun _ h => hC.f.keep h (by simp [dom])) hfi (by decide)) rfl rfl ?_
    refine Pre.setV (t := 16) (c := .agg f.nv.c.toArray) rfl (by rfl) ?_
    refine l_e rfl ?_
    refine e_call_01 (own_spec f.nv hes) rfl rfl rfl Try.call47 rfl (fun _ h => (NR.keep hN h) f hfm) ?_
    intro s _
    refine pull1 ?_
    refine l_e rfl ?_
    refine e_storeAgg rfl rfl Try.sizeOf37 rfl rfl rfl (NV.one _) (by show 0 + 5 ≤ 5; decide) ?_
    refine cells_eq (show Sep.splice _ 0 ((⟨f.nv.leaf, s, f.nv.l⟩ : NV)).c = ((⟨f.nv.leaf, s, f.nv.l⟩ : NV)).c from Sep.splice_all rfl) ?_
    refine l_q rfl (q_assign rfl rfl) rfl rfl ?_
    refine l_nil ?_
    refine k_then ?_
    refine c_ret ?_
    refine pull1 ?_
    refine r_res2 rfl (res_cellA rfl Try.isAgg37 Try.sizeOf37 (fun _ h => h.at 1 rfl) (rfl)) (show Sep.look _ _ = some _ from rfl) ?_
    exact fun _ h => ⟨s, by rw [hnd]; rfl, trivial, by rw [hnd]; exact h.sublist (List.cons_sublist_cons.2 (List.nil_sublist _))⟩
set_option maxRecDepth 100000 in
set_option maxHeartbeats 1000000 in
theorem frames_spec {bc : Nat} {S : CS} {M : Mo} {B : Nat} (hR : Rel S M) (hO : M.Ok B) : Con Try.prog 16 [.pointer (some ⟨bc, 0, none⟩)] (fun w => CR w bc S ∧ NR w S) [] (fun b : Value × List FC × List Ent => b.1) (fun b => b.2.1.map vw = M.fr ∧ ∀ f ∈ b.2.1, nrow f.nv ∈ b.2.2) (fun b => rowE b.1 44 FC.encA b.2.1 :: b.2.2) := by
  intro w hE hH
  obtain ⟨hC, hN⟩ := hE
  refine enter (n := 34) (vs := [.pointer (some ⟨bc, 0, none⟩)]) (St w [] []) Try.func16 rfl rfl rfl (St.init hH) ?_
  refine c_seq ?_
  have hfl := hR.len
  have h64 := hO.n64
  refine c_region _ rfl ?_
  refine l_q rfl (q_assign rfl rfl) rfl rfl ?_
  refine l_nil ?_
  refine k_then ?_
  refine c_seq ?_
  refine c_region _ rfl ?_
  refine l_q rfl (q_assign rfl rfl) rfl rfl ?_
  refine l_nil ?_
  refine k_then ?_
  refine c_seq ?_
  refine c_seq ?_
  refine c_region _ rfl ?_
  refine l_q rfl (q_move rfl rfl) rfl rfl ?_
  refine l_q rfl (q_nilCheck rfl rfl) rfl rfl ?_
  refine l_q rfl (q_fieldAddr rfl Try.underlying78 rfl Try.sizeOf75 rfl rfl) rfl rfl ?_
  refine l_q rfl (q_loadC rfl Try.isAgg75 rfl (fun _ h => (CR.keep hC h).c) rfl) rfl rfl ?_
  refine l_q rfl (q_lenV rfl Try.underlying75 rfl (fun _ h => hC.f.keep h (by simp [dom]))) rfl rfl ?_
  refine l_q rfl (q_move rfl rfl) rfl rfl ?_
  refine l_nil ?_
  refine k_then ?_
  refine c_block ?_
  refine row0 44 FC.encA none ?_
  refine c_loop4 (fun (i : Nat) (v : Value) (fs : List FC) (G : List Ent) => [(3, v), (9, S.vF), (10, .int .i64 (S.fl.length : Int)), (11, .int .i64 (i : Int))]) (fun (i : Nat) (v : Value) (fs : List FC) (G : List Ent) => St w [] (rowE v 44 FC.encA fs :: G)) (fun (i : Nat) (v : Value) (fs : List FC) (G : List Ent) => i ≤ S.fl.length ∧ fs.map vw = M.fr.take i ∧ ∀ f ∈ fs, nrow f.nv ∈ G) (fun (i : Nat) (v : Value) (fs : List FC) (G : List Ent) => S.fl.length - i) (0) (.slice none 0 0) ([]) ([]) ⟨Nat.zero_le _, rfl, fun f h => by cases h⟩ (Sub.cons rfl (Sub.cons rfl (Sub.cons rfl (Sub.cons rfl (Sub.nil))))) (fun _ h => h) ?_
  intro i v fs G hp
  refine c_seq ?_
  obtain ⟨hi, hfs, hG⟩ := hp
  have hfsl : fs.length ≤ i := by have := congrArg List.length hfs; rw [List.length_map, List.length_take] at this; omega
  refine c_region _ rfl ?_
  refine l_q rfl (q_lss rfl rfl rfl) rfl rfl ?_
  refine l_nil ?_
  refine k_then ?_
  refine c_seq ?_
  refine Pre.caseB 12 rfl (fun h1 => ?_) (fun h1 => ?_)
  · try simp only [decide_eq_true_eq, decide_eq_false_iff_not, Bool.not_eq_true', Bool.not_eq_false'] at h1
    obtain ⟨f, hfi⟩ : ∃ f, S.fl[i]? = some f := ⟨_, List.getElem?_eq_getElem (by omega)⟩
    have hv := hR.vw_at hfi
    have hfm := List.mem_of_getElem? hfi
    have hes : f.nv.l.length ≤ 65536 := by
      have := hO.es (vw f) (List.mem_of_getElem? hv)
      exact Nat.le_trans this (by decide)
    refine c_true rfl ?_
    refine c_skip ?_
    refine k_then ?_
    refine c_seq ?_
    refine c_block ?_
    refine c_seq ?_
    refine c_region _ rfl ?_
    refine l_q rfl (q_indexV i rfl Try.underlying75 Try.sizeOf80 rfl (fun _ h => hC.f.keep h (by simp [dom])) rfl rfl (by omega)) rfl rfl ?_
    refine l_q rfl (q_loadVAgg i rfl Try.isAgg80 Try.sizeOf80 rfl rfl (fun _ h => hC.f.keep h (by simp [dom])) hfi) rfl rfl ?_
    refine l_e rfl ?_
    refine e_alloc rfl rfl rfl Try.zeroValue80 ?_
    intro bf
    refine l_e rfl ?_
    refine e_storeAgg rfl rfl Try.sizeOf80 rfl rfl rfl (FC.one _) (by show 0 + 11 ≤ 11; decide) ?_
    refine cells_eq (show Sep.splice _ 0 (f).c = (f).c from Sep.splice_all rfl) ?_
    refine l_nil ?_
    refine k_then ?_
    refine c_draw [(0, some true), (1, some true), (2, some true), (3, some true), (4, some true), (5, some true), (6, some true), (7, some true), (8, some true), (9, some true), (10, some true), (11, some true), (12, some true), (13, some false), (14, some true), (15, some false), (16, some false), (17, some true)] [] [(_, some true), (_, some true), (_, some true), (_, some true), (_, some true), (_, some true), (_, some true), (_, some true), (_, some true), (_, some true), (_, some true), (_, some true), (_, some true), (_, some false), (_, some true), (_, some false), (_, some false), (_, some true)] (fun w2 => (cellsE bf 80 f.c).at w2) (blind_block (blind_then (blind_then (blind_block (blind_then blind_body))))) rfl (by kernel_rfl) (by kernel_rfl) rfl rfl rfl (by kernel_rfl) St.drawn (fun _ h => h.at 0 rfl) ?_
    refine d_q rfl (q_move rfl rfl) rfl rfl ?_
    refine d_q rfl (q_fieldAddr rfl Try.underlying80 rfl Try.sizeOf3 rfl rfl) rfl rfl ?_
    refine d_q rfl (q_loadC rfl Try.isAgg3 rfl (fun _ h => h) rfl) rfl rfl ?_
    refine d_q rfl (q_fieldAddr rfl Try.underlying80 rfl Try.sizeOf3 rfl rfl) rfl rfl ?_
    refine d_q rfl (q_loadC rfl Try.isAgg3 rfl (fun _ h => h) rfl) rfl rfl ?_
    refine d_q rfl (q_fieldAddr rfl Try.underlying80 rfl Try.sizeOf3 rfl rfl) rfl rfl ?_
    refine d_q rfl (q_loadC rfl Try.isAgg3 rfl (fun _ h => h) rfl) rfl rfl ?_
    refine d_q rfl (q_fieldAddr rfl Try.underlying80 rfl Try.sizeOf4 rfl rfl) rfl rfl ?_
    refine d_q rfl (q_loadC rfl Try.isAgg4 rfl (fun _ h => h) rfl) rfl rfl ?_
    refine d_q rfl (q_fieldAddr rfl Try.underlying80 rfl Try.sizeOf4 rfl rfl) rfl rfl ?_
    refine d_q rfl (q_loadC rfl Try.isAgg4 rfl (fun _ h => h) rfl) rfl rfl ?_
    refine d_q rfl (q_fieldAddr rfl Try.underlying80 rfl Try.sizeOf37 rfl rfl) rfl rfl ?_
    refine d_q rfl (q_loadCAgg (f.nv.c) rfl Try.isAgg37 Try.sizeOf37 rfl (fun _ h => h) (node_part _) (rfl)) rfl rfl ?_
    refine d_e rfl ?_
    refine e_call_01 (own_spec f.nv hes) rfl rfl rfl Try.call47 rfl (fun _ h => (NR.keep hN h) f hfm) ?_
    intro s _
    refine d_held (fun _ h => h.at 1 rfl) ?_
    refine d_q rfl (q_build (({ f with nv := ⟨f.nv.leaf, s, f.nv.l⟩ } : FC).cA) rfl rfl (fun w => by kernel_rfl)) rfl rfl ?_
    refine d_e rfl ?_
    refine e_buildSliceV (sz := 13) [.tmp 29] rfl rfl rfl rfl rfl Try.underlying39 Try.sizeOf44 rfl Try.zeroValue44 rfl ?_
    intro b2
    refine d_held (fun _ h => h.at 2 rfl) ?_
    refine pull3 ?_
    refine d_e rfl ?_
    refine e_append rfl rfl rfl Try.underlying39 Try.underlying39 info44 rfl rfl rfl rfl rfl (fun _ h => lit_rd (h.at 1 rfl) FC.encA [({ f with nv := ⟨f.nv.leaf, s, f.nv.l⟩ } : FC)] rfl rfl) (by simp only [byt44, List.length_append, List.length_cons, List.length_nil]; omega) (by simp only [List.length_append, List.length_cons, List.length_nil]; omega) ?_
    intro v2
    refine pull1 ?_
    refine drop0 ?_
    refine d_held (fun _ h => h.at 2 rfl) ?_
    refine d_q rfl (q_assign rfl rfl) rfl rfl ?_
    refine d_nil ?_
    refine k_block ?_
    refine k_then ?_
    refine c_region _ rfl ?_
    refine l_q rfl (q_inc rfl rfl rfl (by omega)) rfl rfl ?_
    refine l_q rfl (q_move rfl rfl) rfl rfl ?_
    refine l_nil ?_
    refine pull2 ?_
    refine drop0 ?_
    refine pull1 ?_
    refine pull1 ?_
    exact k_round ((i + 1, v2, fs ++ [({ f with nv := ⟨f.nv.leaf, s, f.nv.l⟩ } : FC)], nrow (({ f with nv := ⟨f.nv.leaf, s, f.nv.l⟩ } : FC)).nv :: G)) (by dsimp only; omega) ⟨by dsimp only; omega, by dsimp only; rw [List.map_append, hfs, List.take_add_one, hv]; rfl, fun g hg => by
        dsimp only at hg ⊢
        rcases List.mem_append.1 hg with hg | hg
        · exact List.mem_cons_of_mem _ (hG g hg)
        · simp only [List.mem_singleton] at hg; subst hg; exact List.mem_cons_self ..⟩ (Sub.cons rfl (Sub.cons rfl (Sub.cons rfl (Sub.cons rfl (Sub.nil))))) (fun _ h => h)
  · try simp only [decide_eq_true_eq, decide_eq_false_iff_not, Bool.not_eq_true', Bool.not_eq_false'] at h1
    have hfin : fs.map vw = M.fr := by rw [hfs, List.take_of_length_le (by omega)]
    refine c_false rfl ?_
    refine c_exit ?_
    refine k_then_exit ?_
    refine k_then_exit ?_
    refine k_block_exit ?_
    refine k_then ?_
    refine c_seq ?_
    refine c_region _ rfl ?_
    refine l_q rfl (q_move rfl rfl) rfl rfl ?_
    refine l_q rfl (q_assign rfl rfl) rfl rfl ?_
    refine l_nil ?_
    refine k_then ?_
    refine c_ret ?_
    refine r_one rfl rfl ?_
    exact fun _ h => ⟨(v, fs, G), rfl, ⟨hfin, hG⟩, h⟩
set_option maxRecDepth 100000 in
set_option maxHeartbeats 1000000 in
theorem leave_spec {bc : Nat} {S : CS} {M : Mo} {B : Nat} (hR : Rel S M) (hO : M.Ok B) (t : Int) : Con Try.prog 39 [.pointer (some ⟨bc, 0, none⟩), .int .i64 t] (fun _ => True) (S.H bc) (fun v : Value => .tuple #[]) (fun _ => True) (fun v => CS.H bc { S with vL := v, ln := (M.leave t).line.map wn }) := by
  intro w hE hH
  refine enter (n := 21) (vs := [.pointer (some ⟨bc, 0, none⟩), .int .i64 t]) (St w (dom (S.H bc)) (cellsE bc 78 (S).cells :: rowE (S).vF 80 FC.enc (S).fl :: mapT (S).bA kI kI (S).at' :: mapT (S).bL kI vS (S).ld :: rowE (S).vL 83 Wn.enc (S).ln :: (S).rows)) Try.func39 rfl rfl rfl (St.init hH) ?_
  refine c_seq ?_
  refine c_region _ rfl ?_
  refine l_q rfl (q_move rfl rfl) rfl rfl ?_
  refine l_q rfl (q_move rfl rfl) rfl rfl ?_
  refine l_e rfl ?_
  refine e_call_00 (stands_spec hR hO t) rfl rfl rfl Try.call45 rfl (fun _ h => CR.ofm (S := S) h (fun e he => he)) ?_
  intro _ _
  refine l_q rfl (q_assign rfl rfl) rfl rfl ?_
  refine l_nil ?_
  refine k_then ?_
  refine c_seq ?_
  refine opt_cases (M.stand t) (fun hs => ?_) (fun i hs => ?_)
  · have hlv : (M.leave t).line = M.line := by unfold Mo.leave; rw [hs]
    refine Pre.setV (t := 4) (c := .int .i64 (-1)) rfl (by rw [hs]; rfl) ?_
    refine c_region _ rfl ?_
    refine l_q rfl (q_move rfl rfl) rfl rfl ?_
    refine l_q rfl (q_geq rfl rfl rfl) rfl rfl ?_
    refine l_nil ?_
    refine k_then ?_
    refine Pre.setB (t := 9) (c := false) rfl (rfl) ?_
    refine c_false rfl ?_
    refine c_skip ?_
    refine r_normal ?_
    refine r_none rfl ?_
    exact fun _ h => ⟨S.vL, rfl, trivial, by rw [hlv, ← hR.ln]; exact h⟩
  · have hlv : (M.leave t).line = M.line.eraseIdx i := by unfold Mo.leave; rw [hs]
    obtain ⟨q, hq, hqt⟩ := stand_at hs
    have hlt : i < S.ln.length := by rw [hR.lnl]; exact (List.getElem?_eq_some_iff.1 hq).1
    have hB := hO.lB
    have hB9 := hO.B9
    have hll := hR.lnl
    refine Pre.setV (t := 4) (c := .int .i64 (i : Int)) rfl (by rw [hs]; rfl) ?_
    refine c_region _ rfl ?_
    refine l_q rfl (q_move rfl rfl) rfl rfl ?_
    refine l_q rfl (q_geq rfl rfl rfl) rfl rfl ?_
    refine l_nil ?_
    refine k_then ?_
    refine Pre.setB (t := 9) (c := true) rfl (decide_eq_true (by omega)) ?_
    refine c_true rfl ?_
    refine c_region _ rfl ?_
    refine l_q rfl (q_move rfl rfl) rfl rfl ?_
    refine l_q rfl (q_move rfl rfl) rfl rfl ?_
    refine l_q rfl (q_nilCheck rfl rfl) rfl rfl ?_
    refine l_q rfl (q_fieldAddr rfl Try.underlying78 rfl Try.sizeOf76 rfl rfl) rfl rfl ?_
    refine l_q rfl (q_loadC rfl Try.isAgg76 rfl (fun _ h => h.at 0 rfl) rfl) rfl rfl ?_
    refine l_q rfl (q_move rfl rfl) rfl rfl ?_
    refine l_q rfl (q_move rfl rfl) rfl rfl ?_
    refine l_q rfl (q_inc rfl rfl rfl (by omega)) rfl rfl ?_
    refine pull4 ?_
    refine l_e rfl ?_
    refine e_call_11 (deletew_spec S.ln i hlt (by omega)) rfl rfl rfl Try.call69 rfl (fun _ _ => trivial) ?_
    intro v _
    refine l_q rfl (q_nilCheck rfl rfl) rfl rfl ?_
    refine l_q rfl (q_fieldAddr rfl Try.underlying78 rfl Try.sizeOf76 rfl rfl) rfl rfl ?_
    refine row_eq (l' := (M.leave t).line.map wn) (by rw [hlv, hR.ln, erase_wn]) ?_
    refine Pre.fact (fun _ h => rd_sv (h.rd 0 rfl)) ?_
    rintro ⟨sv, rfl⟩
    refine pull1 ?_
    refine l_e rfl ?_
    refine e_store rfl rfl Try.sizeOf76 rfl rfl rfl (Nat.le_of_ble_eq_true rfl) ?_
    refine cells_eq (show _ = ({ S with vL := sv.v, ln := (M.leave t).line.map wn } : CS).cells from rfl) ?_
    refine l_nil ?_
    refine r_normal ?_
    refine pull1 ?_
    refine pull4 ?_
    refine pull4 ?_
    refine pull4 ?_
    refine pull4 ?_
    refine r_none rfl ?_
    exact fun _ h => ⟨sv.v, rfl, trivial, h⟩
set_option maxRecDepth 100000 in
set_option maxHeartbeats 1000000 in
theorem ask_spec {bc : Nat} {S : CS} {M : Mo} {B : Nat} (hR : Rel S M) (hO : M.Ok B) (t b : Int) : Con Try.prog 41 [.pointer (some ⟨bc, 0, none⟩), .agg (wn (t, b)).c.toArray] (fun _ => True) (S.H bc) (fun v : Value => .tuple #[]) (fun _ => True) (fun v => CS.H bc { S with vL := v, ln := (M.ask t b).line.map wn }) := by
  intro w hE hH
  refine enter (n := 19) (vs := [.pointer (some ⟨bc, 0, none⟩), .agg (wn (t, b)).c.toArray]) (St w (dom (S.H bc)) (cellsE bc 78 (S).cells :: rowE (S).vF 80 FC.enc (S).fl :: mapT (S).bA kI kI (S).at' :: mapT (S).bL kI vS (S).ld :: rowE (S).vL 83 Wn.enc (S).ln :: (S).rows)) Try.func41 rfl rfl rfl (St.init hH) ?_
  refine c_seq ?_
  refine c_region _ rfl ?_
  refine l_e rfl ?_
  refine e_box rfl rfl rfl rfl ?_
  intro bw
  refine cells_eq (show _ = (wn (t, b)).c from rfl) ?_
  refine l_nil ?_
  refine k_then ?_
  refine c_seq ?_
  refine c_region _ rfl ?_
  refine l_q rfl (q_move rfl rfl) rfl rfl ?_
  refine l_q rfl (q_fieldAddr rfl Try.underlying83 rfl Try.sizeOf3 rfl rfl) rfl rfl ?_
  refine l_q rfl (q_loadC rfl Try.isAgg3 rfl (fun _ h => h.at 0 rfl) rfl) rfl rfl ?_
  refine l_e rfl ?_
  refine e_call_00 (stands_spec hR hO t) rfl rfl rfl Try.call45 rfl (fun _ h => CR.ofm (S := S) h (fun e he => List.mem_cons_of_mem _ (he))) ?_
  intro _ _
  refine l_q rfl (q_lss rfl rfl rfl) rfl rfl ?_
  refine l_nil ?_
  refine k_then ?_
  refine opt_cases (M.stand t) (fun hs => ?_) (fun i hs => ?_)
  · have hlv : (M.ask t b).line = M.line ++ [(t, b)] := by unfold Mo.ask; rw [hs]; rfl
    have hB := hO.lB
    have hB9 := hO.B9
    have hll := hR.lnl
    refine Pre.setB (t := 8) (c := true) rfl (by rw [hs]; rfl) ?_
    refine c_true rfl ?_
    refine c_draw [(0, some true), (1, some true), (2, some true), (3, some true), (4, some true), (5, some true), (6, some false), (7, some false), (8, none), (9, none), (10, none)] [8, 9, 10] [(_, some true), (_, some true), (_, some true), (_, some true), (_, some true), (_, some true), (_, some false), (_, some false), (_, none), (_, none), (_, none)] (fun w2 => (cellsE bc 78 S.cells).at w2 ∧ (cellsE bw 83 (wn (t, b)).c).at w2) blind_body rfl (by kernel_rfl) (by kernel_rfl) rfl rfl rfl (by kernel_rfl) St.drawn (fun _ h => ⟨h.at 1 rfl, h.at 0 rfl⟩) ?_
    refine d_q rfl (q_move rfl rfl) rfl rfl ?_
    refine d_q rfl (q_move rfl rfl) rfl rfl ?_
    refine d_q rfl (q_nilCheck rfl rfl) rfl rfl ?_
    refine d_q rfl (q_fieldAddr rfl Try.underlying78 rfl Try.sizeOf76 rfl rfl) rfl rfl ?_
    refine d_q rfl (q_loadC rfl Try.isAgg76 rfl (fun _ h => h.1) rfl) rfl rfl ?_
    refine d_q rfl (q_loadCAgg ((wn (t, b)).c) rfl Try.isAgg83 Try.sizeOf83 rfl (fun _ h => h.2) (rfl) (rfl)) rfl rfl ?_
    refine d_e rfl ?_
    refine e_buildSliceV (sz := 3) [.tmp 14] rfl rfl rfl rfl rfl Try.underlying76 Try.sizeOf83 rfl Try.zeroValue83 rfl ?_
    intro b2
    refine d_held (fun _ h => ⟨h.at 2 rfl, h.at 1 rfl⟩) ?_
    refine pull6 ?_
    refine d_e rfl ?_
    refine e_append rfl rfl rfl Try.underlying76 Try.underlying76 info83 rfl rfl rfl rfl rfl (fun _ h => lit_rd (h.at 1 rfl) Wn.enc [(wn (t, b))] rfl rfl) (by simp only [byt83, List.length_append, List.length_cons, List.length_nil]; omega) (by simp only [List.length_append, List.length_cons, List.length_nil]; omega) ?_
    intro v2
    refine row_eq (show _ = (M.ask t b).line.map wn from by rw [hlv, hR.ln, List.map_append]; rfl) ?_
    refine pull1 ?_
    refine drop0 ?_
    refine d_held (fun _ h => ⟨h.at 2 rfl, h.at 1 rfl⟩) ?_
    refine d_t rfl ?_
    refine e_q rfl rfl (q_nilCheck rfl rfl) ?_
    refine d_t rfl ?_
    refine e_q rfl rfl (q_fieldAddr rfl Try.underlying78 rfl Try.sizeOf76 rfl rfl) ?_
    refine Pre.fact (fun _ h => rd_sv (h.rd 0 rfl)) ?_
    rintro ⟨sv, rfl⟩
    refine pull2 ?_
    refine d_t rfl ?_
    refine e_store rfl rfl Try.sizeOf76 rfl rfl rfl (Nat.le_of_ble_eq_true rfl) ?_
    refine cells_eq (show _ = ({ S with vL := sv.v, ln := (M.ask t b).line.map wn } : CS).cells from rfl) ?_
    refine d_nil ?_
    refine r_normal ?_
    refine pull2 ?_
    refine drop0 ?_
    refine pull1 ?_
    refine pull4 ?_
    refine pull4 ?_
    refine pull4 ?_
    refine pull4 ?_
    refine r_none rfl ?_
    exact fun _ h => ⟨sv.v, rfl, trivial, h⟩
  · have hlv : (M.ask t b).line = M.line := by unfold Mo.ask; rw [hs]; rfl
    refine Pre.setB (t := 8) (c := false) rfl (by rw [hs]; exact decide_eq_false (by simp [io])) ?_
    refine c_false rfl ?_
    refine c_skip ?_
    refine r_normal ?_
    refine drop0 ?_
    refine r_none rfl ?_
    exact fun _ h => ⟨S.vL, rfl, trivial, by rw [hlv, ← hR.ln]; exact h⟩
end Go.Proofs.Ytpfbagkjhchojaa
