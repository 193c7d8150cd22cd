/- cache: more looks -/
import Derived.Test.YtpfbagkjhchojaaC
set_option linter.unusedVariables false
set_option linter.unusedSimpArgs false
namespace Go.Proofs.Ytpfbagkjhchojaa
open Go.Sep Go.RowKit

theorem list_cases {α : Type} {Q : Prop} (l : List α) (h1 : l = [] → Q) (h2 : ∀ q r, l = q :: r → Q) : Q := by cases l with
  | nil => exact h1 rfl
  | cons q r => exact h2 q r rfl
theorem countP_snoc {α : Type} {p : α → Bool} {l : List α} {i : Nat} {x : α} (h : l[i]? = some x) : (l.take (i + 1)).countP p = (l.take i).countP p + (if p x = true then 1 else 0) := by
  rw [List.take_add_one, h, List.countP_append]; simp [List.countP_cons]
/-- Which frames a task has claimed, among the first i. -/
def cls (M : Mo) (t : Int) (i : Nat) : List Nat := (List.range i).filter (fun j => isC t (M.at' j))
theorem cls_succ (M : Mo) (t : Int) (i : Nat) : cls M t (i + 1) = if isC t (M.at' i) = true then cls M t i ++ [i] else cls M t i := by
  unfold cls; rw [List.range_succ, List.filter_append]
  cases h : isC t (M.at' i) <;> simp [h]
theorem cls_len (M : Mo) (t : Int) (i : Nat) : (cls M t i).length ≤ i := by
  have := List.length_filter_le (fun j => isC t (M.at' j)) (List.range i)
  rw [List.length_range] at this; exact this
theorem cls_count (M : Mo) (t : Int) : ∀ i, i ≤ M.fr.length → (cls M t i).length = (M.fr.take i).countP (isC t)
  | 0, _ => rfl
  | i + 1, h => by
    obtain ⟨y, hy⟩ : ∃ y, M.fr[i]? = some y := ⟨_, List.getElem?_eq_getElem (by omega)⟩
    rw [cls_succ, countP_snoc hy, at_eq hy, ← cls_count M t i (by omega)]
    split <;> simp
theorem cls_all (M : Mo) (t : Int) : (cls M t M.fr.length).length = M.claims t := by
  rw [cls_count M t _ (Nat.le_refl _), List.take_length]; rfl
def encFp (v : Value) : Enc Nat := ⟨1, fun i => [fp v i], fun _ => rfl, fun a u h => by simp at h; subst h; rfl, by decide⟩
theorem isC_vw (t : Int) (f : FC) : isC t (vw f) = (decide (f.st = 3) && decide (f.own = t)) := by
  unfold isC vw
  by_cases h : f.st = 3 <;> simp [h]
theorem may_none {M : Mo} {t : Int} (h1 : tkB t = true) (h2 : M.waits t = false) (h : M.stand t = none) : M.may t = true := by unfold Mo.may; rw [h1, h2, h]; rfl
theorem may_some {M : Mo} {t : Int} {k : Nat} {q : Int × Int} (h1 : tkB t = true) (h2 : M.waits t = false) (h : M.stand t = some k) (hq : M.line[k]? = some q) : M.may t = ((decide (k = 0) && decide (0 < M.free)) || (M.find q.2).isSome) := by
  have hg : M.line.getD k (0, -1) = q := by rw [List.getD_eq_getElem?_getD, hq]; rfl
  unfold Mo.may
  rw [h1, h2, h]
  show (true && !false && (decide (k = 0) && decide (0 < M.free) || (M.find (M.line.getD k (0, -1)).2).isSome)) = _
  rw [hg]
  simp

set_option maxRecDepth 100000 in
set_option maxHeartbeats 1000000 in
theorem may_spec {bc : Nat} {S : CS} {M : Mo} {B : Nat} (hR : Rel S M) (hO : M.Ok B) (t b : Int) (hb64 : i64 b) : Con Try.prog 37 [.pointer (some ⟨bc, 0, none⟩), .agg (wn (t, b)).c.toArray] (fun w => CR w bc S) [] (fun _ : Unit => .bool (M.mayW t b)) (fun _ => True) (fun _ => []) := by
  intro w hC hH
  refine enter (n := 35) (vs := [.pointer (some ⟨bc, 0, none⟩), .agg (wn (t, b)).c.toArray]) (St w [] []) Try.func37 rfl rfl rfl (St.init hH) ?_
  refine c_seq ?_
  refine c_region _ rfl ?_
  refine l_e rfl ?_
  refine e_box rfl rfl rfl rfl ?_
  intro bw
  refine cells_eq (show _ = (wn (t, b)).c from rfl) ?_
  refine l_q rfl (q_assign rfl rfl) rfl rfl ?_
  refine l_nil ?_
  refine k_then ?_
  refine c_seq ?_
  refine c_region _ rfl ?_
  refine l_q rfl (q_move rfl rfl) rfl rfl ?_
  refine l_q rfl (q_fieldAddr rfl Try.underlying83 rfl Try.sizeOf3 rfl rfl) rfl rfl ?_
  refine l_q rfl (q_loadC rfl Try.isAgg3 rfl (fun _ h => h.at 0 rfl) rfl) rfl rfl ?_
  refine l_e rfl ?_
  refine e_call_00 (stands_spec hR hO t) rfl rfl rfl Try.call45 rfl (fun _ h => CR.keep hC h) ?_
  intro _ _
  refine l_q rfl (q_assign rfl rfl) rfl rfl ?_
  refine l_nil ?_
  refine k_then ?_
  refine c_seq ?_
  refine opt_cases (M.stand t) (fun hs => ?_) (fun i hs => ?_)
  · refine Pre.setV (t := 5) (c := .int .i64 (-1)) rfl (by rw [hs]; rfl) ?_
    refine c_draw [(0, some true), (1, some true), (2, some false), (3, some true), (4, some true), (5, some true), (6, some true), (7, some false), (8, some true), (9, some true), (10, some true), (11, some true), (12, some true), (13, some true), (14, some true), (15, some true), (16, some true), (17, some true), (18, some true), (19, some true), (20, some true), (21, some true), (22, some true), (23, some true), (24, some true), (25, some true)] [] [(_, some true), (_, some true), (_, some false), (_, some true), (_, some true), (_, some true), (_, some true), (_, some false), (_, some true), (_, some true), (_, some true), (_, some true), (_, some true), (_, some true), (_, some true), (_, some true), (_, some true), (_, some true), (_, some true), (_, some true), (_, some true), (_, some true), (_, some true), (_, some true), (_, some true), (_, some true)] (fun w2 => CR w2 bc S ∧ (cellsE bw 83 (wn (t, b)).c).at w2) (blind_then blind_body) rfl (by kernel_rfl) (by kernel_rfl) rfl rfl rfl (by kernel_rfl) St.drawn (fun _ h => ⟨CR.keep hC h, h.at 0 rfl⟩) ?_
    refine d_q rfl (q_fieldAddr rfl Try.underlying83 rfl Try.sizeOf3 rfl rfl) rfl rfl ?_
    refine d_q rfl (q_loadC rfl Try.isAgg3 rfl (fun _ h => h.2) rfl) rfl rfl ?_
    refine d_e rfl ?_
    refine e_call_00 (task_spec t) rfl rfl rfl Try.call43 rfl (fun _ _ => trivial) ?_
    intro _ _
    refine d_held (fun _ h => ⟨CR.keep hC h, h.at 0 rfl⟩) ?_
    refine d_q rfl (q_move rfl rfl) rfl rfl ?_
    refine Pre.caseB 13 rfl (fun h1 => ?_) (fun h1 => ?_)
    · have ht8 : 0 ≤ t ∧ t < 8 := by unfold tkB at h1; simpa using h1
      have ht64 : i64 t := i64_in (by omega) (by omega)
      refine d_q rfl (q_move rfl rfl) rfl rfl ?_
      refine d_q rfl (q_fieldAddr rfl Try.underlying83 rfl Try.sizeOf3 rfl rfl) rfl rfl ?_
      refine d_q rfl (q_loadC rfl Try.isAgg3 rfl (fun _ h => h.2) rfl) rfl rfl ?_
      refine d_e rfl ?_
      refine e_call_00 (waits_spec hR hO t) rfl rfl rfl Try.call44 rfl (fun _ h => CR.keep hC h) ?_
      intro _ _
      refine d_held (fun _ h => ⟨CR.keep hC h, h.at 0 rfl⟩) ?_
      refine d_q rfl (q_not rfl rfl) rfl rfl ?_
      refine d_q rfl (q_pick_t rfl rfl rfl) rfl rfl ?_
      refine d_q rfl (q_move rfl rfl) rfl rfl ?_
      refine Pre.caseB 20 rfl (fun h2 => ?_) (fun h2 => ?_)
      · try simp only [Bool.not_eq_true', Bool.not_eq_false'] at h2
        refine d_q rfl (q_move rfl rfl) rfl rfl ?_
        refine d_q rfl (q_lss rfl rfl rfl) rfl rfl ?_
        refine d_q rfl (q_move rfl rfl) rfl rfl ?_
        refine Pre.setB (t := 23) (c := true) rfl (rfl) ?_
        refine d_not rfl rfl rfl ?_
        refine d_not rfl rfl rfl ?_
        refine d_not rfl rfl rfl ?_
        refine d_not rfl rfl rfl ?_
        refine d_not rfl rfl rfl ?_
        refine d_not rfl rfl rfl ?_
        refine d_not rfl rfl rfl ?_
        refine d_not rfl rfl rfl ?_
        refine d_not rfl rfl rfl ?_
        refine d_q rfl (q_pick_t rfl rfl rfl) rfl rfl ?_
        refine d_q rfl (q_pick_t rfl rfl rfl) rfl rfl ?_
        refine d_q rfl (q_assign rfl rfl) rfl rfl ?_
        refine d_nil ?_
        refine k_then ?_
        refine c_ret ?_
        refine r_one rfl rfl ?_
        exact fun _ h => ⟨(), congrArg (fun z => Ending.returned (Value.bool z)) (by unfold Mo.mayW; rw [h1, h2, hs]; rfl), trivial, h.nothing⟩
      · try simp only [Bool.not_eq_true', Bool.not_eq_false'] at h2
        refine d_not rfl rfl rfl ?_
        refine d_not rfl rfl rfl ?_
        refine d_not rfl rfl rfl ?_
        refine d_not rfl rfl rfl ?_
        refine d_not rfl rfl rfl ?_
        refine d_not rfl rfl rfl ?_
        refine d_not rfl rfl rfl ?_
        refine d_not rfl rfl rfl ?_
        refine d_not rfl rfl rfl ?_
        refine d_not rfl rfl rfl ?_
        refine d_not rfl rfl rfl ?_
        refine d_not rfl rfl rfl ?_
        refine d_not rfl rfl rfl ?_
        refine d_q rfl (q_pick_f rfl rfl rfl) rfl rfl ?_
        refine d_q rfl (q_assign rfl rfl) rfl rfl ?_
        refine d_nil ?_
        refine k_then ?_
        refine c_ret ?_
        refine r_one rfl rfl ?_
        exact fun _ h => ⟨(), congrArg (fun z => Ending.returned (Value.bool z)) (by unfold Mo.mayW; rw [h1, h2]; rfl), trivial, h.nothing⟩
    · refine d_not rfl rfl rfl ?_
      refine d_not rfl rfl rfl ?_
      refine d_not rfl rfl rfl ?_
      refine d_not rfl rfl rfl ?_
      refine d_not rfl rfl rfl ?_
      refine d_q rfl (q_pick_f rfl rfl rfl) rfl rfl ?_
      refine d_q rfl (q_move rfl rfl) rfl rfl ?_
      refine d_not rfl rfl rfl ?_
      refine d_not rfl rfl rfl ?_
      refine d_not rfl rfl rfl ?_
      refine d_not rfl rfl rfl ?_
      refine d_not rfl rfl rfl ?_
      refine d_not rfl rfl rfl ?_
      refine d_not rfl rfl rfl ?_
      refine d_not rfl rfl rfl ?_
      refine d_not rfl rfl rfl ?_
      refine d_not rfl rfl rfl ?_
      refine d_not rfl rfl rfl ?_
      refine d_not rfl rfl rfl ?_
      refine d_not rfl rfl rfl ?_
      refine d_q rfl (q_pick_f rfl rfl rfl) rfl rfl ?_
      refine d_q rfl (q_assign rfl rfl) rfl rfl ?_
      refine d_nil ?_
      refine k_then ?_
      refine c_ret ?_
      refine r_one rfl rfl ?_
      exact fun _ h => ⟨(), congrArg (fun z => Ending.returned (Value.bool z)) (by unfold Mo.mayW; rw [h1]; rfl), trivial, h.nothing⟩
  · obtain ⟨q, hq, hqt⟩ := stand_at hs
    have hli : S.ln[i]? = some (wn q) := by rw [hR.ln, List.getElem?_map, hq]; rfl
    have hlt := (List.getElem?_eq_some_iff.1 hli).1
    refine Pre.setV (t := 5) (c := .int .i64 (i : Int)) rfl (by rw [hs]; rfl) ?_
    refine c_draw [(0, some true), (1, some true), (2, some false), (3, some true), (4, some true), (5, some true), (6, some true), (7, some false), (8, some true), (9, some true), (10, some true), (11, some true), (12, some true), (13, some true), (14, some true), (15, some true), (16, some true), (17, some true), (18, some true), (19, some true), (20, some true), (21, some true), (22, some true), (23, some true), (24, some true), (25, some true)] [] [(_, some true), (_, some true), (_, some false), (_, some true), (_, some true), (_, some true), (_, some true), (_, some false), (_, some true), (_, some true), (_, some true), (_, some true), (_, some true), (_, some true), (_, some true), (_, some true), (_, some true), (_, some true), (_, some true), (_, some true), (_, some true), (_, some true), (_, some true), (_, some true), (_, some true), (_, some true)] (fun w2 => CR w2 bc S ∧ (cellsE bw 83 (wn (t, b)).c).at w2) (blind_then blind_body) rfl (by kernel_rfl) (by kernel_rfl) rfl rfl rfl (by kernel_rfl) St.drawn (fun _ h => ⟨CR.keep hC h, h.at 0 rfl⟩) ?_
    refine d_q rfl (q_fieldAddr rfl Try.underlying83 rfl Try.sizeOf3 rfl rfl) rfl rfl ?_
    refine d_q rfl (q_loadC rfl Try.isAgg3 rfl (fun _ h => h.2) rfl) rfl rfl ?_
    refine d_e rfl ?_
    refine e_call_00 (task_spec t) rfl rfl rfl Try.call43 rfl (fun _ _ => trivial) ?_
    intro _ _
    refine d_held (fun _ h => ⟨CR.keep hC h, h.at 0 rfl⟩) ?_
    refine d_q rfl (q_move rfl rfl) rfl rfl ?_
    refine Pre.caseB 13 rfl (fun h1 => ?_) (fun h1 => ?_)
    · have ht8 : 0 ≤ t ∧ t < 8 := by unfold tkB at h1; simpa using h1
      have ht64 : i64 t := i64_in (by omega) (by omega)
      refine d_q rfl (q_move rfl rfl) rfl rfl ?_
      refine d_q rfl (q_fieldAddr rfl Try.underlying83 rfl Try.sizeOf3 rfl rfl) rfl rfl ?_
      refine d_q rfl (q_loadC rfl Try.isAgg3 rfl (fun _ h => h.2) rfl) rfl rfl ?_
      refine d_e rfl ?_
      refine e_call_00 (waits_spec hR hO t) rfl rfl rfl Try.call44 rfl (fun _ h => CR.keep hC h) ?_
      intro _ _
      refine d_held (fun _ h => ⟨CR.keep hC h, h.at 0 rfl⟩) ?_
      refine d_q rfl (q_not rfl rfl) rfl rfl ?_
      refine d_q rfl (q_pick_t rfl rfl rfl) rfl rfl ?_
      refine d_q rfl (q_move rfl rfl) rfl rfl ?_
      refine Pre.caseB 20 rfl (fun h2 => ?_) (fun h2 => ?_)
      · try simp only [Bool.not_eq_true', Bool.not_eq_false'] at h2
        refine d_q rfl (q_move rfl rfl) rfl rfl ?_
        refine d_q rfl (q_lss rfl rfl rfl) rfl rfl ?_
        refine d_q rfl (q_move rfl rfl) rfl rfl ?_
        refine Pre.setB (t := 23) (c := false) rfl (decide_eq_false (by omega)) ?_
        refine d_q rfl (q_move rfl rfl) rfl rfl ?_
        refine d_q rfl (q_nilCheck rfl rfl) rfl rfl ?_
        refine d_q rfl (q_fieldAddr rfl Try.underlying78 rfl Try.sizeOf76 rfl rfl) rfl rfl ?_
        refine d_q rfl (q_loadC rfl Try.isAgg76 rfl (fun _ h => (h.1).c) rfl) rfl rfl ?_
        refine d_q rfl (q_move rfl rfl) rfl rfl ?_
        refine d_q rfl (q_indexV i rfl Try.underlying76 Try.sizeOf83 rfl (fun _ h => (h.1).l) rfl rfl (by omega)) rfl rfl ?_
        refine d_q rfl (q_loadVAgg i rfl Try.isAgg83 Try.sizeOf83 rfl rfl (fun _ h => (h.1).l) hli) rfl rfl ?_
        refine d_q rfl (q_loadCAgg ((wn (t, b)).c) rfl Try.isAgg83 Try.sizeOf83 rfl (fun _ h => h.2) (rfl) (rfl)) rfl rfl ?_
        refine d_q rfl (q_eqW (wn q) (wn (t, b)) ⟨by rw [wn_t, hqt]; exact ht64, i64_in (by have := hO.lb q (List.mem_of_getElem? hq); show -60000 ≤ q.2; omega) (by have := hO.lb q (List.mem_of_getElem? hq); show q.2 ≤ 60000; omega)⟩ ⟨ht64, hb64⟩ rfl rfl rfl) rfl rfl ?_
        refine d_q rfl (q_pick_f rfl rfl rfl) rfl rfl ?_
        refine d_q rfl (q_pick_t rfl rfl rfl) rfl rfl ?_
        refine d_q rfl (q_assign rfl rfl) rfl rfl ?_
        refine d_nil ?_
        refine k_then ?_
        refine c_ret ?_
        refine r_one rfl rfl ?_
        exact fun _ h => ⟨(), congrArg (fun z => Ending.returned (Value.bool z)) (by rw [wn_eq]; unfold Mo.mayW; rw [h1, h2, hs]; show _ = (true && !false && decide (M.line[i]? = some (t, b))); rw [hq]; simp), trivial, h.nothing⟩
      · try simp only [Bool.not_eq_true', Bool.not_eq_false'] at h2
        refine d_not rfl rfl rfl ?_
        refine d_not rfl rfl rfl ?_
        refine d_not rfl rfl rfl ?_
        refine d_not rfl rfl rfl ?_
        refine d_not rfl rfl rfl ?_
        refine d_not rfl rfl rfl ?_
        refine d_not rfl rfl rfl ?_
        refine d_not rfl rfl rfl ?_
        refine d_not rfl rfl rfl ?_
        refine d_not rfl rfl rfl ?_
        refine d_not rfl rfl rfl ?_
        refine d_not rfl rfl rfl ?_
        refine d_not rfl rfl rfl ?_
        refine d_q rfl (q_pick_f rfl rfl rfl) rfl rfl ?_
        refine d_q rfl (q_assign rfl rfl) rfl rfl ?_
        refine d_nil ?_
        refine k_then ?_
        refine c_ret ?_
        refine r_one rfl rfl ?_
        exact fun _ h => ⟨(), congrArg (fun z => Ending.returned (Value.bool z)) (by unfold Mo.mayW; rw [h1, h2]; rfl), trivial, h.nothing⟩
    · refine d_not rfl rfl rfl ?_
      refine d_not rfl rfl rfl ?_
      refine d_not rfl rfl rfl ?_
      refine d_not rfl rfl rfl ?_
      refine d_not rfl rfl rfl ?_
      refine d_q rfl (q_pick_f rfl rfl rfl) rfl rfl ?_
      refine d_q rfl (q_move rfl rfl) rfl rfl ?_
      refine d_not rfl rfl rfl ?_
      refine d_not rfl rfl rfl ?_
      refine d_not rfl rfl rfl ?_
      refine d_not rfl rfl rfl ?_
      refine d_not rfl rfl rfl ?_
      refine d_not rfl rfl rfl ?_
      refine d_not rfl rfl rfl ?_
      refine d_not rfl rfl rfl ?_
      refine d_not rfl rfl rfl ?_
      refine d_not rfl rfl rfl ?_
      refine d_not rfl rfl rfl ?_
      refine d_not rfl rfl rfl ?_
      refine d_not rfl rfl rfl ?_
      refine d_q rfl (q_pick_f rfl rfl rfl) rfl rfl ?_
      refine d_q rfl (q_assign rfl rfl) rfl rfl ?_
      refine d_nil ?_
      refine k_then ?_
      refine c_ret ?_
      refine r_one rfl rfl ?_
      exact fun _ h => ⟨(), congrArg (fun z => Ending.returned (Value.bool z)) (by unfold Mo.mayW; rw [h1]; rfl), trivial, h.nothing⟩
set_option maxRecDepth 100000 in
set_option maxHeartbeats 1000000 in
theorem free_spec {bc : Nat} {S : CS} {M : Mo} {B : Nat} (hR : Rel S M) (hO : M.Ok B) (t : Int) : Con Try.prog 40 [.pointer (some ⟨bc, 0, none⟩), .int .i64 t] (fun w => CR w bc S) [] (fun _ : Unit => fpo S.vF (M.takes t)) (fun _ => True) (fun _ => []) := by
  intro w hC hH
  refine enter (n := 47) (vs := [.pointer (some ⟨bc, 0, none⟩), .int .i64 t]) (St w [] []) Try.func40 rfl rfl rfl (St.init hH) ?_
  refine c_seq ?_
  refine c_region _ rfl ?_
  refine l_q rfl (q_assign rfl rfl) rfl rfl ?_
  refine l_nil ?_
  refine k_then ?_
  refine c_seq ?_
  refine c_seq ?_
  refine c_region _ rfl ?_
  refine l_q rfl (q_move rfl rfl) rfl rfl ?_
  refine l_q rfl (q_nilCheck rfl rfl) rfl rfl ?_
  refine l_q rfl (q_fieldAddr rfl Try.underlying78 rfl Try.sizeOf76 rfl rfl) rfl rfl ?_
  refine l_q rfl (q_loadC rfl Try.isAgg76 rfl (fun _ h => (CR.keep hC h).c) rfl) rfl rfl ?_
  refine l_q rfl (q_lenV rfl Try.underlying76 rfl (fun _ h => hC.l.keep h (by simp [dom]))) rfl rfl ?_
  refine l_q rfl (q_gtr rfl rfl rfl) rfl rfl ?_
  refine l_q rfl (q_move rfl rfl) rfl rfl ?_
  refine list_cases M.line (fun hl => ?_) (fun q r hl => ?_)
  · have h0 : S.ln.length = 0 := by rw [hR.lnl, hl]; rfl
    have ht : M.turn t = true := by unfold Mo.turn; rw [hl]
    refine Pre.setB (t := 12) (c := false) rfl (decide_eq_false (by omega)) ?_
    refine l_not rfl rfl rfl ?_
    refine l_not rfl rfl rfl ?_
    refine l_not rfl rfl rfl ?_
    refine l_not rfl rfl rfl ?_
    refine l_not rfl rfl rfl ?_
    refine l_not rfl rfl rfl ?_
    refine l_not rfl rfl rfl ?_
    refine l_not rfl rfl rfl ?_
    refine l_not rfl rfl rfl ?_
    refine l_q rfl (q_pick_f rfl rfl rfl) rfl rfl ?_
    refine l_nil ?_
    refine k_then ?_
    refine c_false rfl ?_
    refine c_skip ?_
    refine k_then ?_
    refine c_seq ?_
    refine c_seq ?_
    refine c_region _ rfl ?_
    refine l_q rfl (q_move rfl rfl) rfl rfl ?_
    refine l_q rfl (q_nilCheck rfl rfl) rfl rfl ?_
    refine l_q rfl (q_fieldAddr rfl Try.underlying78 rfl Try.sizeOf75 rfl rfl) rfl rfl ?_
    refine l_q rfl (q_loadC rfl Try.isAgg75 rfl (fun _ h => (CR.keep hC h).c) rfl) rfl rfl ?_
    refine l_q rfl (q_lenV rfl Try.underlying75 rfl (fun _ h => hC.f.keep h (by simp [dom]))) rfl rfl ?_
    refine l_q rfl (q_move rfl rfl) rfl rfl ?_
    refine l_nil ?_
    refine k_then ?_
    refine c_block ?_
    refine c_loop1 (fun (i : Nat) => [(0, .pointer (some ⟨bc, 0, none⟩)), (1, .int .i64 t), (27, .int .i64 (S.fl.length : Int)), (28, .int .i64 (i : Int))]) (fun (i : Nat) => St w [] []) (fun (i : Nat) => i ≤ S.fl.length ∧ ∀ z ∈ M.fr.take i, isF z = false) (fun (i : Nat) => S.fl.length - i) (0) ⟨Nat.zero_le _, by simp⟩ (Sub.cons rfl (Sub.cons rfl (Sub.cons rfl (Sub.cons rfl (Sub.nil))))) (fun _ h => h) ?_
    intro i hp
    refine c_seq ?_
    obtain ⟨hi, hno⟩ := hp
    have hfl := hR.len
    have h64 := hO.n64
    refine c_region _ rfl ?_
    refine l_q rfl (q_lss rfl rfl rfl) rfl rfl ?_
    refine l_nil ?_
    refine k_then ?_
    refine c_seq ?_
    refine Pre.caseB 29 rfl (fun h1 => ?_) (fun h1 => ?_)
    · try simp only [decide_eq_true_eq, decide_eq_false_iff_not, Bool.not_eq_true', Bool.not_eq_false'] at h1
      obtain ⟨f, hfi⟩ : ∃ f, S.fl[i]? = some f := ⟨_, List.getElem?_eq_getElem (by omega)⟩
      have hv := hR.vw_at hfi
      refine c_true rfl ?_
      refine c_skip ?_
      refine k_then ?_
      refine c_seq ?_
      refine c_block ?_
      refine c_seq ?_
      refine c_region _ rfl ?_
      refine l_q rfl (q_move rfl rfl) rfl rfl ?_
      refine l_q rfl (q_assign rfl rfl) rfl rfl ?_
      refine l_nil ?_
      refine k_then ?_
      refine c_seq ?_
      refine c_region _ rfl ?_
      refine l_q rfl (q_move rfl rfl) rfl rfl ?_
      refine l_q rfl (q_nilCheck rfl rfl) rfl rfl ?_
      refine l_q rfl (q_fieldAddr rfl Try.underlying78 rfl Try.sizeOf75 rfl rfl) rfl rfl ?_
      refine l_q rfl (q_loadC rfl Try.isAgg75 rfl (fun _ h => (CR.keep hC h).c) rfl) rfl rfl ?_
      refine l_q rfl (q_move rfl rfl) rfl rfl ?_
      refine l_q rfl (q_indexV i rfl Try.underlying75 Try.sizeOf80 rfl (fun _ h => hC.f.keep h (by simp [dom])) rfl rfl (by omega)) rfl rfl ?_
      refine l_q rfl (q_fieldAddr rfl Try.underlying80 rfl Try.sizeOf3 rfl rfl) rfl rfl ?_
      refine l_q rfl (q_loadV i 0 rfl Try.isAgg3 rfl rfl (fun _ h => hC.f.keep h (by simp [dom])) hfi rfl) rfl rfl ?_
      refine l_q rfl (q_eql rfl rfl rfl) rfl rfl ?_
      refine l_nil ?_
      refine k_then ?_
      refine Pre.caseB 39 rfl (fun h2 => ?_) (fun h2 => ?_)
      · try simp only [decide_eq_true_eq, decide_eq_false_iff_not, Bool.not_eq_true', Bool.not_eq_false'] at h2
        refine c_true rfl ?_
        refine c_seq ?_
        refine c_region _ rfl ?_
        refine l_q rfl (q_move rfl rfl) rfl rfl ?_
        refine l_q rfl (q_nilCheck rfl rfl) rfl rfl ?_
        refine l_q rfl (q_fieldAddr rfl Try.underlying78 rfl Try.sizeOf75 rfl rfl) rfl rfl ?_
        refine l_q rfl (q_loadC rfl Try.isAgg75 rfl (fun _ h => (CR.keep hC h).c) rfl) rfl rfl ?_
        refine l_q rfl (q_move rfl rfl) rfl rfl ?_
        refine l_q rfl (q_indexV i rfl Try.underlying75 Try.sizeOf80 rfl (fun _ h => hC.f.keep h (by simp [dom])) rfl rfl (by omega)) rfl rfl ?_
        refine l_q rfl (q_assign rfl rfl) rfl rfl ?_
        refine l_nil ?_
        refine k_then ?_
        refine c_ret ?_
        refine k_block_ret ?_
        refine k_then_ret ?_
        refine k_then_ret ?_
        refine k_block_ret ?_
        refine k_then_ret ?_
        refine r_one rfl rfl ?_
        exact fun _ h => ⟨(), congrArg (fun z => Ending.returned z) (by unfold Mo.takes; rw [if_pos ht]; unfold Mo.freeI; rw [fst1_some hv (decide_eq_true h2) hno]; rfl), trivial, h.nothing⟩
      · try simp only [decide_eq_true_eq, decide_eq_false_iff_not, Bool.not_eq_true', Bool.not_eq_false'] at h2
        refine c_false rfl ?_
        refine c_skip ?_
        refine k_block ?_
        refine k_then ?_
        refine c_region _ rfl ?_
        refine l_q rfl (q_inc rfl rfl rfl (by omega)) rfl rfl ?_
        refine l_q rfl (q_move rfl rfl) rfl rfl ?_
        refine l_nil ?_
        exact k_round (i + 1) (by omega) ⟨by omega, take_none hno hv (decide_eq_false h2)⟩ (Sub.cons rfl (Sub.cons rfl (Sub.cons rfl (Sub.cons rfl (Sub.nil))))) (fun _ h => h)
    · try simp only [decide_eq_true_eq, decide_eq_false_iff_not, Bool.not_eq_true', Bool.not_eq_false'] at h1
      refine c_false rfl ?_
      refine c_exit ?_
      refine k_then_exit ?_
      refine k_then_exit ?_
      refine k_block_exit ?_
      refine k_then ?_
      refine c_seq ?_
      refine c_region _ rfl ?_
      refine l_q rfl (q_assign rfl rfl) rfl rfl ?_
      refine l_nil ?_
      refine k_then ?_
      refine c_ret ?_
      refine r_one rfl rfl ?_
      exact fun _ h => ⟨(), congrArg (fun z => Ending.returned z) (by unfold Mo.takes; rw [if_pos ht]; unfold Mo.freeI; rw [List.take_of_length_le (by omega)] at hno; rw [fst1_none hno]; rfl), trivial, h.nothing⟩
  · have hl0 : S.ln[0]? = some (wn q) := by rw [hR.ln, hl]; rfl
    have hlt := (List.getElem?_eq_some_iff.1 hl0).1
    refine Pre.setB (t := 12) (c := true) rfl (decide_eq_true (by omega)) ?_
    refine l_q rfl (q_move rfl rfl) rfl rfl ?_
    refine l_q rfl (q_nilCheck rfl rfl) rfl rfl ?_
    refine l_q rfl (q_fieldAddr rfl Try.underlying78 rfl Try.sizeOf76 rfl rfl) rfl rfl ?_
    refine l_q rfl (q_loadC rfl Try.isAgg76 rfl (fun _ h => (CR.keep hC h).c) rfl) rfl rfl ?_
    refine l_q rfl (q_indexV 0 rfl Try.underlying76 Try.sizeOf83 rfl (fun _ h => hC.l.keep h (by simp [dom])) rfl rfl (by omega)) rfl rfl ?_
    refine l_q rfl (q_fieldAddr rfl Try.underlying83 rfl Try.sizeOf3 rfl rfl) rfl rfl ?_
    refine l_q rfl (q_loadV 0 0 rfl Try.isAgg3 rfl rfl (fun _ h => hC.l.keep h (by simp [dom])) hl0 rfl) rfl rfl ?_
    refine l_q rfl (q_move rfl rfl) rfl rfl ?_
    refine l_q rfl (q_neq rfl rfl rfl) rfl rfl ?_
    refine l_q rfl (q_pick_t rfl rfl rfl) rfl rfl ?_
    refine l_nil ?_
    refine k_then ?_
    refine Pre.caseB 22 rfl (fun hqt => ?_) (fun hqt => ?_)
    · try simp only [decide_eq_true_eq, decide_eq_false_iff_not, Bool.not_eq_true', Bool.not_eq_false'] at hqt
      refine c_true rfl ?_
      refine c_seq ?_
      refine c_region _ rfl ?_
      refine l_q rfl (q_assign rfl rfl) rfl rfl ?_
      refine l_nil ?_
      refine k_then ?_
      refine c_ret ?_
      refine k_then_ret ?_
      refine r_one rfl rfl ?_
      exact fun _ h => ⟨(), congrArg (fun z => Ending.returned z) (by unfold Mo.takes Mo.turn; rw [hl]; simp only; rw [if_neg (show ¬ decide (q.1 = t) = true from fun e => hqt (of_decide_eq_true e))]; rfl), trivial, h.nothing⟩
    · try simp only [decide_eq_true_eq, decide_eq_false_iff_not, Bool.not_eq_true', Bool.not_eq_false'] at hqt
      have ht : M.turn t = true := by unfold Mo.turn; rw [hl]; exact decide_eq_true hqt
      refine c_false rfl ?_
      refine c_skip ?_
      refine k_then ?_
      refine c_seq ?_
      refine c_seq ?_
      refine c_region _ rfl ?_
      refine l_q rfl (q_move rfl rfl) rfl rfl ?_
      refine l_q rfl (q_nilCheck rfl rfl) rfl rfl ?_
      refine l_q rfl (q_fieldAddr rfl Try.underlying78 rfl Try.sizeOf75 rfl rfl) rfl rfl ?_
      refine l_q rfl (q_loadC rfl Try.isAgg75 rfl (fun _ h => (CR.keep hC h).c) rfl) rfl rfl ?_
      refine l_q rfl (q_lenV rfl Try.underlying75 rfl (fun _ h => hC.f.keep h (by simp [dom]))) rfl rfl ?_
      refine l_q rfl (q_move rfl rfl) rfl rfl ?_
      refine l_nil ?_
      refine k_then ?_
      refine c_block ?_
      refine c_loop1 (fun (i : Nat) => [(0, .pointer (some ⟨bc, 0, none⟩)), (1, .int .i64 t), (27, .int .i64 (S.fl.length : Int)), (28, .int .i64 (i : Int))]) (fun (i : Nat) => St w [] []) (fun (i : Nat) => i ≤ S.fl.length ∧ ∀ z ∈ M.fr.take i, isF z = false) (fun (i : Nat) => S.fl.length - i) (0) ⟨Nat.zero_le _, by simp⟩ (Sub.cons rfl (Sub.cons rfl (Sub.cons rfl (Sub.cons rfl (Sub.nil))))) (fun _ h => h) ?_
      intro i hp
      refine c_seq ?_
      obtain ⟨hi, hno⟩ := hp
      have hfl := hR.len
      have h64 := hO.n64
      refine c_region _ rfl ?_
      refine l_q rfl (q_lss rfl rfl rfl) rfl rfl ?_
      refine l_nil ?_
      refine k_then ?_
      refine c_seq ?_
      refine Pre.caseB 29 rfl (fun h1 => ?_) (fun h1 => ?_)
      · try simp only [decide_eq_true_eq, decide_eq_false_iff_not, Bool.not_eq_true', Bool.not_eq_false'] at h1
        obtain ⟨f, hfi⟩ : ∃ f, S.fl[i]? = some f := ⟨_, List.getElem?_eq_getElem (by omega)⟩
        have hv := hR.vw_at hfi
        refine c_true rfl ?_
        refine c_skip ?_
        refine k_then ?_
        refine c_seq ?_
        refine c_block ?_
        refine c_seq ?_
        refine c_region _ rfl ?_
        refine l_q rfl (q_move rfl rfl) rfl rfl ?_
        refine l_q rfl (q_assign rfl rfl) rfl rfl ?_
        refine l_nil ?_
        refine k_then ?_
        refine c_seq ?_
        refine c_region _ rfl ?_
        refine l_q rfl (q_move rfl rfl) rfl rfl ?_
        refine l_q rfl (q_nilCheck rfl rfl) rfl rfl ?_
        refine l_q rfl (q_fieldAddr rfl Try.underlying78 rfl Try.sizeOf75 rfl rfl) rfl rfl ?_
        refine l_q rfl (q_loadC rfl Try.isAgg75 rfl (fun _ h => (CR.keep hC h).c) rfl) rfl rfl ?_
        refine l_q rfl (q_move rfl rfl) rfl rfl ?_
        refine l_q rfl (q_indexV i rfl Try.underlying75 Try.sizeOf80 rfl (fun _ h => hC.f.keep h (by simp [dom])) rfl rfl (by omega)) rfl rfl ?_
        refine l_q rfl (q_fieldAddr rfl Try.underlying80 rfl Try.sizeOf3 rfl rfl) rfl rfl ?_
        refine l_q rfl (q_loadV i 0 rfl Try.isAgg3 rfl rfl (fun _ h => hC.f.keep h (by simp [dom])) hfi rfl) rfl rfl ?_
        refine l_q rfl (q_eql rfl rfl rfl) rfl rfl ?_
        refine l_nil ?_
        refine k_then ?_
        refine Pre.caseB 39 rfl (fun h2 => ?_) (fun h2 => ?_)
        · try simp only [decide_eq_true_eq, decide_eq_false_iff_not, Bool.not_eq_true', Bool.not_eq_false'] at h2
          refine c_true rfl ?_
          refine c_seq ?_
          refine c_region _ rfl ?_
          refine l_q rfl (q_move rfl rfl) rfl rfl ?_
          refine l_q rfl (q_nilCheck rfl rfl) rfl rfl ?_
          refine l_q rfl (q_fieldAddr rfl Try.underlying78 rfl Try.sizeOf75 rfl rfl) rfl rfl ?_
          refine l_q rfl (q_loadC rfl Try.isAgg75 rfl (fun _ h => (CR.keep hC h).c) rfl) rfl rfl ?_
          refine l_q rfl (q_move rfl rfl) rfl rfl ?_
          refine l_q rfl (q_indexV i rfl Try.underlying75 Try.sizeOf80 rfl (fun _ h => hC.f.keep h (by simp [dom])) rfl rfl (by omega)) rfl rfl ?_
          refine l_q rfl (q_assign rfl rfl) rfl rfl ?_
          refine l_nil ?_
          refine k_then ?_
          refine c_ret ?_
          refine k_block_ret ?_
          refine k_then_ret ?_
          refine k_then_ret ?_
          refine k_block_ret ?_
          refine k_then_ret ?_
          refine r_one rfl rfl ?_
          exact fun _ h => ⟨(), congrArg (fun z => Ending.returned z) (by unfold Mo.takes; rw [if_pos ht]; unfold Mo.freeI; rw [fst1_some hv (decide_eq_true h2) hno]; rfl), trivial, h.nothing⟩
        · try simp only [decide_eq_true_eq, decide_eq_false_iff_not, Bool.not_eq_true', Bool.not_eq_false'] at h2
          refine c_false rfl ?_
          refine c_skip ?_
          refine k_block ?_
          refine k_then ?_
          refine c_region _ rfl ?_
          refine l_q rfl (q_inc rfl rfl rfl (by omega)) rfl rfl ?_
          refine l_q rfl (q_move rfl rfl) rfl rfl ?_
          refine l_nil ?_
          exact k_round (i + 1) (by omega) ⟨by omega, take_none hno hv (decide_eq_false h2)⟩ (Sub.cons rfl (Sub.cons rfl (Sub.cons rfl (Sub.cons rfl (Sub.nil))))) (fun _ h => h)
      · try simp only [decide_eq_true_eq, decide_eq_false_iff_not, Bool.not_eq_true', Bool.not_eq_false'] at h1
        refine c_false rfl ?_
        refine c_exit ?_
        refine k_then_exit ?_
        refine k_then_exit ?_
        refine k_block_exit ?_
        refine k_then ?_
        refine c_seq ?_
        refine c_region _ rfl ?_
        refine l_q rfl (q_assign rfl rfl) rfl rfl ?_
        refine l_nil ?_
        refine k_then ?_
        refine c_ret ?_
        refine r_one rfl rfl ?_
        exact fun _ h => ⟨(), congrArg (fun z => Ending.returned z) (by unfold Mo.takes; rw [if_pos ht]; unfold Mo.freeI; rw [List.take_of_length_le (by omega)] at hno; rw [fst1_none hno]; rfl), trivial, h.nothing⟩
set_option maxRecDepth 100000 in
set_option maxHeartbeats 1000000 in
theorem freen_spec {bc : Nat} {S : CS} {M : Mo} {B : Nat} (hR : Rel S M) (hO : M.Ok B) : Con Try.prog 18 [.pointer (some ⟨bc, 0, none⟩)] (fun w => CR w bc S) [] (fun _ : Unit => .int .i64 (M.free : Int)) (fun _ => True) (fun _ => []) := by
  intro w hC hH
  refine enter (n := 22) (vs := [.pointer (some ⟨bc, 0, none⟩)]) (St w [] []) Try.func18 rfl rfl rfl (St.init hH) ?_
  refine c_seq ?_
  have hfl := hR.len
  have h64 := hO.n64
  refine c_region _ rfl ?_
  refine l_q rfl (q_assign rfl rfl) rfl rfl ?_
  refine l_nil ?_
  refine k_then ?_
  refine c_seq ?_
  refine c_region _ rfl ?_
  refine l_q rfl (q_assign rfl rfl) rfl rfl ?_
  refine l_nil ?_
  refine k_then ?_
  refine c_seq ?_
  refine c_seq ?_
  refine c_region _ rfl ?_
  refine l_q rfl (q_move rfl rfl) rfl rfl ?_
  refine l_q rfl (q_nilCheck rfl rfl) rfl rfl ?_
  refine l_q rfl (q_fieldAddr rfl Try.underlying78 rfl Try.sizeOf75 rfl rfl) rfl rfl ?_
  refine l_q rfl (q_loadC rfl Try.isAgg75 rfl (fun _ h => (CR.keep hC h).c) rfl) rfl rfl ?_
  refine l_q rfl (q_lenV rfl Try.underlying75 rfl (fun _ h => hC.f.keep h (by simp [dom]))) rfl rfl ?_
  refine l_q rfl (q_move rfl rfl) rfl rfl ?_
  refine l_nil ?_
  refine k_then ?_
  refine c_block ?_
  refine c_loop1 (fun (i : Nat) => [(3, .int .i64 (((M.fr.take i).countP isF) : Int)), (9, S.vF), (10, .int .i64 (S.fl.length : Int)), (11, .int .i64 (i : Int))]) (fun (i : Nat) => St w [] []) (fun (i : Nat) => i ≤ S.fl.length) (fun (i : Nat) => S.fl.length - i) (0) (Nat.zero_le _) (Sub.cons rfl (Sub.cons rfl (Sub.cons rfl (Sub.cons rfl (Sub.nil))))) (fun _ h => h) ?_
  intro i hi
  refine c_seq ?_
  have hcl : ((M.fr.take i).countP isF) ≤ (M.fr.take i).length := List.countP_le_length
  have htl := List.length_take_le i M.fr
  refine c_region _ rfl ?_
  refine l_q rfl (q_lss rfl rfl rfl) rfl rfl ?_
  refine l_nil ?_
  refine k_then ?_
  refine c_seq ?_
  refine Pre.caseB 12 rfl (fun h1 => ?_) (fun h1 => ?_)
  · try simp only [decide_eq_true_eq, decide_eq_false_iff_not, Bool.not_eq_true', Bool.not_eq_false'] at h1
    obtain ⟨f, hfi⟩ : ∃ f, S.fl[i]? = some f := ⟨_, List.getElem?_eq_getElem (by omega)⟩
    have hv := hR.vw_at hfi
    have hcs := countP_snoc (p := isF) hv
    refine c_true rfl ?_
    refine c_skip ?_
    refine k_then ?_
    refine c_seq ?_
    refine c_block ?_
    refine c_seq ?_
    refine c_region _ rfl ?_
    refine l_q rfl (q_indexV i rfl Try.underlying75 Try.sizeOf80 rfl (fun _ h => hC.f.keep h (by simp [dom])) rfl rfl (by omega)) rfl rfl ?_
    refine l_q rfl (q_loadVAgg i rfl Try.isAgg80 Try.sizeOf80 rfl rfl (fun _ h => hC.f.keep h (by simp [dom])) hfi) rfl rfl ?_
    refine l_e rfl ?_
    refine e_alloc rfl rfl rfl Try.zeroValue80 ?_
    intro bf
    refine l_e rfl ?_
    refine e_storeAgg rfl rfl Try.sizeOf80 rfl rfl rfl (FC.one _) (by show 0 + 11 ≤ 11; decide) ?_
    refine cells_eq (show Sep.splice _ 0 (f).c = (f).c from Sep.splice_all rfl) ?_
    refine l_nil ?_
    refine k_then ?_
    refine c_seq ?_
    refine c_region _ rfl ?_
    refine l_q rfl (q_fieldAddr rfl Try.underlying80 rfl Try.sizeOf3 rfl rfl) rfl rfl ?_
    refine l_q rfl (q_loadC rfl Try.isAgg3 rfl (fun _ h => h.at 0 rfl) rfl) rfl rfl ?_
    refine l_q rfl (q_eql rfl rfl rfl) rfl rfl ?_
    refine l_nil ?_
    refine k_then ?_
    refine Pre.caseB 17 rfl (fun h2 => ?_) (fun h2 => ?_)
    · try simp only [decide_eq_true_eq, decide_eq_false_iff_not, Bool.not_eq_true', Bool.not_eq_false'] at h2
      refine c_true rfl ?_
      refine c_region _ rfl ?_
      refine l_q rfl (q_move rfl rfl) rfl rfl ?_
      refine l_q rfl (q_inc rfl rfl rfl (by omega)) rfl rfl ?_
      refine l_q rfl (q_assign rfl rfl) rfl rfl ?_
      refine l_nil ?_
      refine k_block ?_
      refine k_then ?_
      refine c_region _ rfl ?_
      refine l_q rfl (q_inc rfl rfl rfl (by omega)) rfl rfl ?_
      refine l_q rfl (q_move rfl rfl) rfl rfl ?_
      refine l_nil ?_
      refine drop0 ?_
      exact k_round (i + 1) (by omega) (by omega) (Sub.consE rfl (by rw [hcs, if_pos (show isF (vw f) = true from decide_eq_true h2)]) (Sub.cons rfl (Sub.cons rfl (Sub.cons rfl Sub.nil)))) (fun _ h => h)
    · try simp only [decide_eq_true_eq, decide_eq_false_iff_not, Bool.not_eq_true', Bool.not_eq_false'] at h2
      refine c_false rfl ?_
      refine c_skip ?_
      refine k_block ?_
      refine k_then ?_
      refine c_region _ rfl ?_
      refine l_q rfl (q_inc rfl rfl rfl (by omega)) rfl rfl ?_
      refine l_q rfl (q_move rfl rfl) rfl rfl ?_
      refine l_nil ?_
      refine drop0 ?_
      exact k_round (i + 1) (by omega) (by omega) (Sub.consE rfl (by rw [hcs, if_neg (show ¬ isF (vw f) = true from fun e => h2 (of_decide_eq_true e)), Nat.add_zero]) (Sub.cons rfl (Sub.cons rfl (Sub.cons rfl Sub.nil)))) (fun _ h => h)
  · try simp only [decide_eq_true_eq, decide_eq_false_iff_not, Bool.not_eq_true', Bool.not_eq_false'] at h1
    refine c_false rfl ?_
    refine c_exit ?_
    refine k_then_exit ?_
    refine k_then_exit ?_
    refine k_block_exit ?_
    refine k_then ?_
    refine c_seq ?_
    refine c_region _ rfl ?_
    refine l_q rfl (q_move rfl rfl) rfl rfl ?_
    refine l_q rfl (q_assign rfl rfl) rfl rfl ?_
    refine l_nil ?_
    refine k_then ?_
    refine c_ret ?_
    refine r_one rfl rfl ?_
    exact fun _ h => ⟨(), congrArg (fun z => Ending.returned (Value.int .i64 z)) (by rw [List.take_of_length_le (by omega)]; rfl), trivial, h.nothing⟩
set_option maxRecDepth 100000 in
set_option maxHeartbeats 1000000 in
theorem line_spec {bc : Nat} {S : CS} {M : Mo} {B : Nat} (hR : Rel S M) (hO : M.Ok B) : Con Try.prog 23 [.pointer (some ⟨bc, 0, none⟩)] (fun w => CR w bc S) [] (fun v : Value => v) (fun _ => True) (fun v => [rowE v 3 (encI .i64) (M.line.map Prod.fst)]) := by
  intro w hC hH
  refine enter (n := 22) (vs := [.pointer (some ⟨bc, 0, none⟩)]) (St w [] []) Try.func23 rfl rfl rfl (St.init hH) ?_
  refine c_seq ?_
  have hll := hR.lnl
  have hlB := hO.lB
  have hB9 := hO.B9
  refine c_region _ rfl ?_
  refine l_q rfl (q_assign rfl rfl) rfl rfl ?_
  refine l_nil ?_
  refine k_then ?_
  refine c_seq ?_
  refine c_region _ rfl ?_
  refine l_q rfl (q_assign rfl rfl) rfl rfl ?_
  refine l_nil ?_
  refine k_then ?_
  refine c_seq ?_
  refine c_seq ?_
  refine c_region _ rfl ?_
  refine l_q rfl (q_move rfl rfl) rfl rfl ?_
  refine l_q rfl (q_nilCheck rfl rfl) rfl rfl ?_
  refine l_q rfl (q_fieldAddr rfl Try.underlying78 rfl Try.sizeOf76 rfl rfl) rfl rfl ?_
  refine l_q rfl (q_loadC rfl Try.isAgg76 rfl (fun _ h => (CR.keep hC h).c) rfl) rfl rfl ?_
  refine l_q rfl (q_lenV rfl Try.underlying76 rfl (fun _ h => hC.l.keep h (by simp [dom]))) rfl rfl ?_
  refine l_q rfl (q_move rfl rfl) rfl rfl ?_
  refine l_nil ?_
  refine k_then ?_
  refine c_block ?_
  refine row0 3 (encI .i64) none ?_
  refine c_loop2 (fun (i : Nat) (v : Value) => [(3, v), (9, S.vL), (10, .int .i64 (S.ln.length : Int)), (11, .int .i64 (i : Int))]) (fun (i : Nat) (v : Value) => St w [] [rowE v 3 (encI .i64) ((M.line.take i).map Prod.fst)]) (fun (i : Nat) (v : Value) => i ≤ S.ln.length) (fun (i : Nat) (v : Value) => S.ln.length - i) (0) (.slice none 0 0) (Nat.zero_le _) (Sub.cons rfl (Sub.cons rfl (Sub.cons rfl (Sub.cons rfl (Sub.nil))))) (fun _ h => h) ?_
  intro i v hi
  refine c_seq ?_
  have htl := List.length_take_le i M.line
  have htm : ((M.line.take i).map Prod.fst).length ≤ i := by rw [List.length_map]; exact htl
  refine c_region _ rfl ?_
  refine l_q rfl (q_lss rfl rfl rfl) rfl rfl ?_
  refine l_nil ?_
  refine k_then ?_
  refine c_seq ?_
  refine Pre.caseB 12 rfl (fun h1 => ?_) (fun h1 => ?_)
  · try simp only [decide_eq_true_eq, decide_eq_false_iff_not, Bool.not_eq_true', Bool.not_eq_false'] at h1
    obtain ⟨q, hq⟩ : ∃ q, M.line[i]? = some q := ⟨_, List.getElem?_eq_getElem (by omega)⟩
    have hli : S.ln[i]? = some (wn q) := by rw [hR.ln, List.getElem?_map, hq]; rfl
    refine c_true rfl ?_
    refine c_skip ?_
    refine k_then ?_
    refine c_seq ?_
    refine c_block ?_
    refine c_seq ?_
    refine c_region _ rfl ?_
    refine l_q rfl (q_indexV i rfl Try.underlying76 Try.sizeOf83 rfl (fun _ h => hC.l.keep h (by simp [dom])) rfl rfl (by omega)) rfl rfl ?_
    refine l_q rfl (q_loadVAgg i rfl Try.isAgg83 Try.sizeOf83 rfl rfl (fun _ h => hC.l.keep h (by simp [dom])) hli) rfl rfl ?_
    refine l_e rfl ?_
    refine e_alloc rfl rfl rfl Try.zeroValue83 ?_
    intro bw
    refine l_e rfl ?_
    refine e_storeAgg rfl rfl Try.sizeOf83 rfl rfl rfl (Wn.one _) (by show 0 + 3 ≤ 3; decide) ?_
    refine cells_eq (show Sep.splice _ 0 ((wn q)).c = ((wn q)).c from Sep.splice_all rfl) ?_
    refine l_nil ?_
    refine k_then ?_
    refine c_region _ rfl ?_
    refine l_q rfl (q_move rfl rfl) rfl rfl ?_
    refine l_q rfl (q_fieldAddr rfl Try.underlying83 rfl Try.sizeOf3 rfl rfl) rfl rfl ?_
    refine l_q rfl (q_loadC rfl Try.isAgg3 rfl (fun _ h => h.at 0 rfl) rfl) rfl rfl ?_
    refine l_e rfl ?_
    refine e_buildSliceV (sz := 1) [.tmp 17] rfl rfl rfl rfl rfl Try.underlying28 Try.sizeOf3 rfl Try.zeroValue3 rfl ?_
    intro b1
    refine pull2 ?_
    refine l_e rfl ?_
    refine e_append rfl rfl rfl Try.underlying28 Try.underlying28 info3 rfl rfl rfl rfl rfl (fun _ h => lit_rd (h.at 1 rfl) (encI .i64) [q.1] rfl rfl) (by simp only [byt3, List.length_append, List.length_cons, List.length_nil]; omega) (by simp only [List.length_append, List.length_cons, List.length_nil]; omega) ?_
    intro v2
    refine row_eq (show _ = (M.line.take (i + 1)).map Prod.fst from by rw [List.take_add_one, hq, List.map_append]; rfl) ?_
    refine pull1 ?_
    refine drop0 ?_
    refine l_q rfl (q_assign rfl rfl) rfl rfl ?_
    refine l_nil ?_
    refine k_block ?_
    refine k_then ?_
    refine c_region _ rfl ?_
    refine l_q rfl (q_inc rfl rfl rfl (by omega)) rfl rfl ?_
    refine l_q rfl (q_move rfl rfl) rfl rfl ?_
    refine l_nil ?_
    refine pull1 ?_
    refine drop0 ?_
    exact k_round ((i + 1, v2)) (by dsimp only; omega) (by dsimp only; omega) (Sub.cons rfl (Sub.cons rfl (Sub.cons rfl (Sub.cons rfl (Sub.nil))))) (fun _ h => h)
  · try simp only [decide_eq_true_eq, decide_eq_false_iff_not, Bool.not_eq_true', Bool.not_eq_false'] at h1
    have hfin : ((M.line.take i).map Prod.fst) = M.line.map Prod.fst := by rw [List.take_of_length_le (by omega)]
    refine row_eq hfin ?_
    refine c_false rfl ?_
    refine c_exit ?_
    refine k_then_exit ?_
    refine k_then_exit ?_
    refine k_block_exit ?_
    refine k_then ?_
    refine c_seq ?_
    refine c_region _ rfl ?_
    refine l_q rfl (q_move rfl rfl) rfl rfl ?_
    refine l_q rfl (q_assign rfl rfl) rfl rfl ?_
    refine l_nil ?_
    refine k_then ?_
    refine c_ret ?_
    refine r_one rfl rfl ?_
    exact fun _ h => ⟨v, rfl, trivial, h⟩
end Go.Proofs.Ytpfbagkjhchojaa
