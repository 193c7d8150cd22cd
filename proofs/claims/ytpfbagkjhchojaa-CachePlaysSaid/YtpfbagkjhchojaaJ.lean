/- cache: Claim, Give, Name, New -/
import Derived.Test.YtpfbagkjhchojaaI
set_option linter.unusedVariables false
set_option linter.unusedSimpArgs false
namespace Go.Proofs.Ytpfbagkjhchojaa
open Go.Sep Go.RowKit

def fE : FC := ⟨0, -1, -1, 0, false, false, nv0⟩
theorem vw_fE : vw fE = free0 := rfl
theorem fst1_snoc {α : Type} {p : α → Bool} {l : List α} {i : Nat} {x : α} (h : l[i]? = some x) : fst1 p (l.take (i + 1)) = match fst1 p (l.take i) with | some k => some k | none => if p x = true then some i else none := by
  have hlt := (List.getElem?_eq_some_iff.1 h).1
  have hl : (l.take i).length = i := by rw [List.length_take]; omega
  unfold fst1
  rw [List.take_add_one, h, List.findIdx?_append]
  cases hf : (l.take i).findIdx? p with
  | some k => rfl
  | none =>
    simp only [Option.none_or, Option.toList, List.findIdx?_cons, List.findIdx?_nil, hl]
    cases p x <;> simp
theorem cls_head (M : Mo) (t : Int) : ∀ i, i ≤ M.fr.length → (cls M t i).head? = fst1 (isC t) (M.fr.take i)
  | 0, _ => rfl
  | i + 1, h => by
    obtain ⟨y, hy⟩ : ∃ y, M.fr[i]? = some y := ⟨_, List.getElem?_eq_getElem (by omega)⟩
    rw [fst1_snoc hy, cls_succ, at_eq hy, ← cls_head M t i (by omega)]
    cases hc : cls M t i with
    | nil => cases isC t y <;> simp
    | cons a l => cases isC t y <;> simp
theorem cls_first (M : Mo) (t : Int) : fst1 (isC t) M.fr = (cls M t M.fr.length).head? := by rw [cls_head M t _ (Nat.le_refl _), List.take_length]
theorem mem_cls {M : Mo} {t : Int} {i n : Nat} : i ∈ cls M t n ↔ i < n ∧ isC t (M.at' i) = true := by
  unfold cls; rw [List.mem_filter, List.mem_range]
/-- Frames given back. -/
def giveL (fl : List FC) (l : List Nat) : List FC := l.foldl (fun a k => a.set k fE) fl
theorem giveL_get : ∀ (l : List Nat) (fl : List FC) (i : Nat), (giveL fl l)[i]? = if i ∈ l then (fl[i]?).map (fun _ => fE) else fl[i]?
  | [], fl, i => by simp [giveL]
  | k :: l, fl, i => by
    show (giveL (fl.set k fE) l)[i]? = _
    rw [giveL_get l (fl.set k fE) i, List.getElem?_set]
    by_cases e : k = i
    · subst e
      by_cases hlt : k < fl.length
      · simp [hlt]
      · simp [hlt]
    · simp [e, Ne.symm e]
theorem giveL_len (l : List Nat) (fl : List FC) : (giveL fl l).length = fl.length := by
  induction l generalizing fl with
  | nil => rfl
  | cons k l ih => show (giveL (fl.set k fE) l).length = _; rw [ih, List.length_set]
theorem give_map {S : CS} {M : Mo} (h : Rel S M) (t : Int) : (giveL S.fl (cls M t M.fr.length)).map vw = (M.give t).fr := by
  refine List.ext_getElem? (fun i => ?_)
  show _ = (M.fr.map (fun f => if isC t f = true then free0 else f))[i]?
  rw [List.getElem?_map, giveL_get, List.getElem?_map, ← h.fr, List.getElem?_map]
  cases hf : S.fl[i]? with
  | none => split <;> rfl
  | some f =>
    have hv := h.vw_at hf
    have hlt := (List.getElem?_eq_some_iff.1 hv).1
    have hm : i ∈ cls M t (S.fl.map vw).length ↔ isC t (vw f) = true := by rw [h.fr, mem_cls, at_eq hv]; exact ⟨fun e => e.2, fun e => ⟨hlt, e⟩⟩
    by_cases hc : isC t (vw f) = true
    · rw [if_pos (hm.2 hc)]; simp [hc, vw_fE]
    · rw [if_neg (fun e => hc (hm.1 e))]; simp [hc]
theorem give_find {M : Mo} {B : Nat} (h : M.Ok B) (t b : Int) : (M.give t).find b = M.find b := by
  show fst1 (isB b) (M.fr.map (fun f => if isC t f = true then free0 else f)) = _
  rw [fst1_map]
  unfold Mo.find
  congr 1
  funext f
  split
  · rename_i hc
    unfold isC at hc
    simp only [Bool.and_eq_true, decide_eq_true_eq] at hc
    unfold isB free0
    simp only [hc.1]
    simp
  · rfl
theorem Rel.give {S : CS} {M : Mo} {B : Nat} (h : Rel S M) (hO : M.Ok B) (t : Int) : Rel { S with fl := giveL S.fl (cls M t M.fr.length) } (M.give t) :=
  ⟨give_map h t, h.ln, h.hd, fun b => by rw [give_find hO]; exact h.at' b, h.ld, h.nd, h.na⟩
theorem name_no1 {M : Mo} {t b : Int} (lf : Bool) (es : List En) (h : (bkB b && (M.find b).isNone) = false) : M.name t b lf es = (false, M) := by unfold Mo.name; rw [h]
theorem name_no2 {M : Mo} {t b : Int} (lf : Bool) (es : List En) (h : fst1 (isC t) M.fr = none) : M.name t b lf es = (false, M) := by unfold Mo.name; rw [h]; cases (bkB b && (M.find b).isNone) <;> rfl
theorem name_yes {M : Mo} {t b : Int} {k : Nat} (lf : Bool) (es : List En) (h : (bkB b && (M.find b).isNone) = true) (hk : fst1 (isC t) M.fr = some k) : M.name t b lf es = (true, M.put k ⟨2, b, 0, 0, true, true, lf, es⟩) := by unfold Mo.name; rw [h, hk]
/-- A cache of so many free frames. -/
def mo0 (n : Nat) : Mo := ⟨List.replicate n free0, [], [], 0⟩
theorem NIn.give {G : List Ent} {fl : List FC} (h : NIn G fl) (l : List Nat) : NIn G (giveL fl l) := by
  induction l generalizing fl with
  | nil => exact h
  | cons k l ih => exact ih (h.set (.inl ⟨rfl, rfl⟩))
theorem st_iff {s s' : Int} (h1 : ¬ (s = 1 ∨ s = 2)) (h2 : ¬ (s' = 1 ∨ s' = 2)) : (s = 1 ∨ s = 2) ↔ (s' = 1 ∨ s' = 2) := ⟨fun e => absurd e h1, fun e => absurd e h2⟩

set_option maxRecDepth 100000 in
set_option maxHeartbeats 1000000 in
theorem claim_spec {bc : Nat} {S : CS} {M : Mo} {B : Nat} (hR : Rel S M) (hO : M.Ok B) (t : Int) : Con Try.prog 22 [.pointer (some ⟨bc, 0, none⟩), .int .i64 t] (fun _ => True) (S.H bc) (fun S' : CS => .bool (M.claim t).1) (fun S' => Rel S' (M.claim t).2 ∧ ∀ G, NIn G S.fl → NIn G S'.fl) (fun S' => S'.H bc) := by
  intro w hE hH
  refine enter (n := 28) (vs := [.pointer (some ⟨bc, 0, none⟩), .int .i64 t]) (St w (dom (S.H bc)) (cellsE bc 78 (S).cells :: rowE (S).vF 80 FC.enc (S).fl :: mapT (S).bA kI kI (S).at' :: mapT (S).bL kI vS (S).ld :: rowE (S).vL 83 Wn.enc (S).ln :: (S).rows)) Try.func22 rfl rfl rfl (St.init hH) ?_
  refine c_seq ?_
  refine c_region _ rfl ?_
  refine l_q rfl (q_assign rfl rfl) rfl rfl ?_
  refine l_nil ?_
  refine k_then ?_
  refine c_seq ?_
  refine c_region _ rfl ?_
  refine l_q rfl (q_move rfl rfl) rfl rfl ?_
  refine l_q rfl (q_build ((wn (t, -1)).c) rfl rfl (fun w => by kernel_rfl)) rfl rfl ?_
  refine l_e rfl ?_
  refine e_alloc rfl rfl rfl Try.zeroValue83 ?_
  intro bw
  refine cells_eq (show _ = (⟨0, 0, false⟩ : Wn).c from rfl) ?_
  refine l_e rfl ?_
  refine e_storeAgg rfl rfl Try.sizeOf83 rfl rfl rfl (Wn.one _) (by show 0 + 3 ≤ 3; decide) ?_
  refine cells_eq (show Sep.splice _ 0 ((wn (t, -1))).c = ((wn (t, -1))).c from Sep.splice_all rfl) ?_
  refine l_nil ?_
  refine k_then ?_
  refine c_seq ?_
  refine c_seq ?_
  refine c_region _ rfl ?_
  refine l_q rfl (q_move rfl rfl) rfl rfl ?_
  refine l_q rfl (q_loadCAgg ((wn (t, -1)).c) rfl Try.isAgg83 Try.sizeOf83 rfl (fun _ h => h.at 0 rfl) (rfl) (rfl)) rfl rfl ?_
  refine l_e rfl ?_
  refine e_call_00 (may_spec hR hO t (-1) (i64_in (by decide) (by decide))) rfl rfl rfl Try.call37 rfl (fun _ h => CR.ofm (S := S) h (fun e he => List.mem_cons_of_mem _ (he))) ?_
  intro _ _
  refine l_q rfl (q_not rfl rfl) rfl rfl ?_
  refine l_nil ?_
  refine k_then ?_
  refine Pre.caseB 12 rfl (fun hm => ?_) (fun hm => ?_)
  · try simp only [Bool.not_eq_true', Bool.not_eq_false'] at hm
    have hu := claim_no (M := M) (t := t) hm
    refine c_true rfl ?_
    refine c_seq ?_
    refine c_region _ rfl ?_
    refine l_q rfl (q_assign rfl rfl) rfl rfl ?_
    refine l_nil ?_
    refine k_then ?_
    refine c_ret ?_
    refine k_then_ret ?_
    refine drop0 ?_
    refine r_one rfl rfl ?_
    exact fun _ h => ⟨S, by rw [hu], ⟨by rw [hu]; exact hR, fun _ h => h⟩, h⟩
  · try simp only [Bool.not_eq_true', Bool.not_eq_false'] at hm
    refine c_false rfl ?_
    refine c_skip ?_
    refine k_then ?_
    refine c_seq ?_
    refine c_region _ rfl ?_
    refine l_q rfl (q_move rfl rfl) rfl rfl ?_
    refine l_q rfl (q_move rfl rfl) rfl rfl ?_
    refine l_e rfl ?_
    refine e_call_00 (free_spec hR hO t) rfl rfl rfl Try.call40 rfl (fun _ h => CR.ofm (S := S) h (fun e he => List.mem_cons_of_mem _ (he))) ?_
    intro _ _
    refine l_q rfl (q_assign rfl rfl) rfl rfl ?_
    refine l_nil ?_
    refine k_then ?_
    refine c_seq ?_
    refine c_seq ?_
    refine opt_cases (M.takes t) (fun hk => ?_) (fun k hk => ?_)
    · have hu := claim_queue hm hk
      refine Pre.setV (t := 6) (c := .pointer none) rfl (by rw [hk]; rfl) ?_
      refine c_region _ rfl ?_
      refine l_q rfl (q_move rfl rfl) rfl rfl ?_
      refine l_q rfl (q_eqp rfl Try.underlying85 rfl rfl) rfl rfl ?_
      refine l_nil ?_
      refine k_then ?_
      refine Pre.setB (t := 17) (c := true) rfl (rfl) ?_
      refine c_true rfl ?_
      refine c_seq ?_
      refine c_region _ rfl ?_
      refine l_q rfl (q_move rfl rfl) rfl rfl ?_
      refine l_q rfl (q_loadCAgg ((wn (t, -1)).c) rfl Try.isAgg83 Try.sizeOf83 rfl (fun _ h => h.at 0 rfl) (rfl) (rfl)) rfl rfl ?_
      refine l_e rfl ?_
      refine e_callH [_] (ask_spec hR hO t (-1)) rfl rfl rfl Try.call41 rfl (fun _ _ => trivial) ?_
      intro v _
      refine Pre.world (St _ _ (_ :: cellsE bc 78 (({ S with vL := v, ln := (M.ask t (-1)).line.map wn } : CS)).cells :: rowE (({ S with vL := v, ln := (M.ask t (-1)).line.map wn } : CS)).vF 80 FC.enc (({ S with vL := v, ln := (M.ask t (-1)).line.map wn } : CS)).fl :: mapT (({ S with vL := v, ln := (M.ask t (-1)).line.map wn } : CS)).bA kI kI (({ S with vL := v, ln := (M.ask t (-1)).line.map wn } : CS)).at' :: mapT (({ S with vL := v, ln := (M.ask t (-1)).line.map wn } : CS)).bL kI vS (({ S with vL := v, ln := (M.ask t (-1)).line.map wn } : CS)).ld :: rowE (({ S with vL := v, ln := (M.ask t (-1)).line.map wn } : CS)).vL 83 Wn.enc (({ S with vL := v, ln := (M.ask t (-1)).line.map wn } : CS)).ln :: (({ S with vL := v, ln := (M.ask t (-1)).line.map wn } : CS)).rows)) (fun _ h => h) ?_
      refine l_nil ?_
      refine k_then ?_
      refine c_seq ?_
      refine c_region _ rfl ?_
      refine l_q rfl (q_assign rfl rfl) rfl rfl ?_
      refine l_nil ?_
      refine k_then ?_
      refine c_ret ?_
      refine k_then_ret ?_
      refine drop0 ?_
      refine r_one rfl rfl ?_
      exact fun _ h => ⟨({ S with vL := v, ln := (M.ask t (-1)).line.map wn } : CS), by rw [hu], ⟨by rw [hu]; exact hR.line v _, fun _ h => h⟩, h⟩
    · have hu := claim_some hm hk
      obtain ⟨y0, hy0, hys, hya⟩ := takes_at hk
      obtain ⟨f0, hfk, hfy⟩ := hR.get hy0
      have hkl := (List.getElem?_eq_some_iff.1 hfk).1
      have hfb : f0.blk = -1 := by have := hO.none' y0 (List.mem_of_getElem? hy0) (.inl hys); rw [← hfy] at this; exact this
      have hfs : f0.st = 0 := by rw [← hfy] at hys; exact hys
      refine Pre.setV (t := 6) (c := fp S.vF k) rfl (by rw [hk]; rfl) ?_
      refine c_region _ rfl ?_
      refine l_q rfl (q_move rfl rfl) rfl rfl ?_
      refine l_q rfl (q_eqp rfl Try.underlying85 rfl rfl) rfl rfl ?_
      refine l_nil ?_
      refine k_then ?_
      refine Pre.setB (t := 17) (c := false) rfl (rfl) ?_
      refine c_false rfl ?_
      refine c_skip ?_
      refine k_then ?_
      refine c_seq ?_
      refine c_region _ rfl ?_
      refine l_q rfl (q_move rfl rfl) rfl rfl ?_
      refine l_q rfl (q_move rfl rfl) rfl rfl ?_
      refine l_e rfl ?_
      refine e_callH [_] (leave_spec hR hO t) rfl rfl rfl Try.call39 rfl (fun _ _ => trivial) ?_
      intro v _
      refine Pre.world (St _ _ (_ :: cellsE bc 78 (({ S with vL := v, ln := (M.leave t).line.map wn } : CS)).cells :: rowE (({ S with vL := v, ln := (M.leave t).line.map wn } : CS)).vF 80 FC.enc (({ S with vL := v, ln := (M.leave t).line.map wn } : CS)).fl :: mapT (({ S with vL := v, ln := (M.leave t).line.map wn } : CS)).bA kI kI (({ S with vL := v, ln := (M.leave t).line.map wn } : CS)).at' :: mapT (({ S with vL := v, ln := (M.leave t).line.map wn } : CS)).bL kI vS (({ S with vL := v, ln := (M.leave t).line.map wn } : CS)).ld :: rowE (({ S with vL := v, ln := (M.leave t).line.map wn } : CS)).vL 83 Wn.enc (({ S with vL := v, ln := (M.leave t).line.map wn } : CS)).ln :: (({ S with vL := v, ln := (M.leave t).line.map wn } : CS)).rows)) (fun _ h => h) ?_
      refine l_nil ?_
      refine k_then ?_
      refine c_seq ?_
      refine c_region _ rfl ?_
      refine l_q rfl (q_move rfl rfl) rfl rfl ?_
      refine l_q rfl (q_move rfl rfl) rfl rfl ?_
      refine l_q rfl (q_build ((⟨3, -1, t, 1, false, false, nv0⟩ : FC).c) rfl rfl (fun w => by kernel_rfl)) rfl rfl ?_
      refine l_q rfl (q_nilCheck rfl rfl) rfl rfl ?_
      refine pull2 ?_
      refine l_e rfl ?_
      refine e_storeVAgg k ((⟨3, -1, t, 1, false, false, nv0⟩ : FC)) rfl rfl Try.sizeOf80 rfl rfl rfl rfl (by omega) ?_
      refine l_nil ?_
      refine k_then ?_
      refine c_seq ?_
      refine c_region _ rfl ?_
      refine l_q rfl (q_assign rfl rfl) rfl rfl ?_
      refine l_nil ?_
      refine k_then ?_
      refine c_ret ?_
      refine pull1 ?_
      refine drop0 ?_
      refine pull4 ?_
      refine pull4 ?_
      refine pull4 ?_
      refine pull3 ?_
      refine pull4 ?_
      refine r_one rfl rfl ?_
      exact fun _ h => ⟨({ S with vL := v, ln := (M.leave t).line.map wn, fl := S.fl.set k (⟨3, -1, t, 1, false, false, nv0⟩ : FC) } : CS), by rw [hu], ⟨by rw [hu]; exact (hR.line v (M.leave t).line).put_same (M := M.leave t) (f' := (⟨3, -1, t, 1, false, false, nv0⟩ : FC)) hfk rfl hfb.symm (st_iff (show ¬ ((3 : Int) = 1 ∨ (3 : Int) = 2) by decide) (by rw [hfs]; decide)), fun _ hG => hG.set (.inl ⟨rfl, rfl⟩)⟩, h⟩
set_option maxRecDepth 100000 in
set_option maxHeartbeats 1000000 in
theorem empty_spec  : Con Try.prog 35 [] (fun _ => True) [] (fun _ : Unit => .agg fE.c.toArray) (fun _ => True) (fun _ => []) := by
  intro w hE hH
  refine enter (n := 2) (vs := []) (St w [] []) Try.func35 rfl rfl rfl (St.init hH) ?_
  refine c_seq ?_
  refine c_region _ rfl ?_
  refine l_e rfl ?_
  refine e_alloc rfl rfl rfl Try.zeroValue80 ?_
  intro be
  refine cells_eq (show _ = (⟨0, 0, 0, 0, false, false, nv0⟩ : FC).c from rfl) ?_
  refine l_nil ?_
  refine k_then ?_
  refine c_seq ?_
  refine c_region _ rfl ?_
  refine l_q rfl (q_build (fE.c) rfl rfl (fun w => by kernel_rfl)) rfl rfl ?_
  refine l_e rfl ?_
  refine e_storeAgg rfl rfl Try.sizeOf80 rfl rfl rfl (FC.one _) (by show 0 + 11 ≤ 11; decide) ?_
  refine cells_eq (show Sep.splice _ 0 (fE).c = (fE).c from Sep.splice_all rfl) ?_
  refine l_nil ?_
  refine k_then ?_
  refine c_ret ?_
  refine r_res1 rfl (res_cellA rfl Try.isAgg80 Try.sizeOf80 (fun _ h => h.at 0 rfl) (rfl)) ?_
  exact fun _ h => ⟨(), rfl, trivial, h.nothing⟩
set_option maxRecDepth 100000 in
set_option maxHeartbeats 1000000 in
theorem give_spec {bc : Nat} {S : CS} {M : Mo} {B : Nat} (hR : Rel S M) (hO : M.Ok B) (t : Int) : Con Try.prog 24 [.pointer (some ⟨bc, 0, none⟩), .int .i64 t] (fun _ => True) (S.H bc) (fun S' : CS => .int .i64 (M.claims t : Int)) (fun S' => Rel S' (M.give t) ∧ ∀ G, NIn G S.fl → NIn G S'.fl) (fun S' => S'.H bc) := by
  intro w hE hH
  refine enter (n := 23) (vs := [.pointer (some ⟨bc, 0, none⟩), .int .i64 t]) (St w (dom (S.H bc)) (cellsE bc 78 (S).cells :: rowE (S).vF 80 FC.enc (S).fl :: mapT (S).bA kI kI (S).at' :: mapT (S).bL kI vS (S).ld :: rowE (S).vL 83 Wn.enc (S).ln :: (S).rows)) Try.func24 rfl rfl rfl (St.init hH) ?_
  refine c_seq ?_
  refine c_region _ rfl ?_
  refine l_q rfl (q_assign rfl rfl) rfl rfl ?_
  refine l_nil ?_
  refine k_then ?_
  refine c_seq ?_
  refine c_region _ rfl ?_
  refine l_q rfl (q_move rfl rfl) rfl rfl ?_
  refine l_q rfl (q_move rfl rfl) rfl rfl ?_
  obtain ⟨ks, hks⟩ : ∃ ks, ks = cls M t M.fr.length := ⟨_, rfl⟩
  have hkl : ks.length ≤ M.fr.length := by rw [hks]; exact cls_len M t _
  have h64 := hO.n64
  have hfl := hR.len
  refine l_e rfl ?_
  refine e_call_01 (claimed_spec hR hO t) rfl rfl rfl Try.call50 rfl (fun _ h => CR.ofm (S := S) h (fun e he => he)) ?_
  intro vk _
  rw [← hks]
  refine l_q rfl (q_assign rfl rfl) rfl rfl ?_
  refine l_nil ?_
  refine k_then ?_
  refine c_seq ?_
  refine c_seq ?_
  refine c_region _ rfl ?_
  refine l_q rfl (q_move rfl rfl) rfl rfl ?_
  refine l_q rfl (q_lenV rfl Try.underlying94 rfl (fun _ h => h.rd 0 rfl)) rfl rfl ?_
  refine l_q rfl (q_move rfl rfl) rfl rfl ?_
  refine l_nil ?_
  refine k_then ?_
  refine c_block ?_
  refine c_loop1 (fun (j : Nat) => [(0, .pointer (some ⟨bc, 0, none⟩)), (5, vk), (11, vk), (12, .int .i64 (ks.length : Int)), (13, .int .i64 (j : Int))]) (fun (j : Nat) => St w (dom (S.H bc)) (rowE vk 85 (encFp S.vF) ks :: cellsE bc 78 (S).cells :: rowE (S).vF 80 FC.enc (giveL S.fl (ks.take j)) :: mapT (S).bA kI kI (S).at' :: mapT (S).bL kI vS (S).ld :: rowE (S).vL 83 Wn.enc (S).ln :: (S).rows)) (fun (j : Nat) => j ≤ ks.length) (fun (j : Nat) => ks.length - j) (0) (Nat.zero_le _) (Sub.cons rfl (Sub.cons rfl (Sub.cons rfl (Sub.cons rfl (Sub.cons rfl (Sub.nil)))))) (fun _ h => h) ?_
  intro j hj0
  refine c_seq ?_
  refine c_region _ rfl ?_
  refine l_q rfl (q_lss rfl rfl rfl) rfl rfl ?_
  refine l_nil ?_
  refine k_then ?_
  refine c_seq ?_
  refine Pre.caseB 14 rfl (fun h1 => ?_) (fun h1 => ?_)
  · try simp only [decide_eq_true_eq, decide_eq_false_iff_not, Bool.not_eq_true', Bool.not_eq_false'] at h1
    obtain ⟨i, hj⟩ : ∃ i, ks[j]? = some i := ⟨_, List.getElem?_eq_getElem (by omega)⟩
    have hil : i < M.fr.length := by have := List.mem_of_getElem? hj; rw [hks] at this; exact (mem_cls.1 this).1
    have hgl := giveL_len (ks.take j) S.fl
    have hgs : giveL S.fl (ks.take (j + 1)) = (giveL S.fl (ks.take j)).set i fE := by unfold giveL; rw [List.take_add_one, hj, List.foldl_append]; rfl
    refine c_true rfl ?_
    refine c_skip ?_
    refine k_then ?_
    refine c_seq ?_
    refine c_block ?_
    refine c_seq ?_
    refine c_region _ rfl ?_
    refine l_q rfl (q_indexV j rfl Try.underlying94 Try.sizeOf85 rfl (fun _ h => h.rd 0 rfl) rfl rfl (by omega)) rfl rfl ?_
    refine l_q rfl (q_loadV j 0 rfl Try.isAgg85 rfl rfl (fun _ h => h.rd 0 rfl) hj rfl) rfl rfl ?_
    refine l_q rfl (q_assign rfl rfl) rfl rfl ?_
    refine l_nil ?_
    refine k_then ?_
    refine c_region _ rfl ?_
    refine l_q rfl (q_move rfl rfl) rfl rfl ?_
    refine l_e rfl ?_
    refine e_call_00 (empty_spec) rfl rfl rfl Try.call35 rfl (fun _ _ => trivial) ?_
    intro _ _
    refine l_q rfl (q_nilCheck rfl rfl) rfl rfl ?_
    refine pull2 ?_
    refine l_e rfl ?_
    refine e_storeVAgg i fE rfl rfl Try.sizeOf80 rfl rfl rfl rfl (by omega) ?_
    refine l_nil ?_
    refine k_block ?_
    refine k_then ?_
    refine c_region _ rfl ?_
    refine l_q rfl (q_inc rfl rfl rfl (by omega)) rfl rfl ?_
    refine l_q rfl (q_move rfl rfl) rfl rfl ?_
    refine l_nil ?_
    refine pull5 ?_
    refine pull5 ?_
    refine pull5 ?_
    refine pull3 ?_
    refine pull5 ?_
    refine pull5 ?_
    exact k_round (j + 1) (by omega) (by omega) (Sub.cons rfl (Sub.cons rfl (Sub.cons rfl (Sub.cons rfl (Sub.cons rfl (Sub.nil)))))) (fun _ h => by rw [hgs]; exact h)
  · try simp only [decide_eq_true_eq, decide_eq_false_iff_not, Bool.not_eq_true', Bool.not_eq_false'] at h1
    rw [List.take_of_length_le (show ks.length ≤ j by omega)]
    refine c_false rfl ?_
    refine c_exit ?_
    refine k_then_exit ?_
    refine k_then_exit ?_
    refine k_block_exit ?_
    refine k_then ?_
    refine c_seq ?_
    refine c_region _ rfl ?_
    refine l_q rfl (q_move rfl rfl) rfl rfl ?_
    refine l_q rfl (q_lenV rfl Try.underlying94 rfl (fun _ h => h.rd 0 rfl)) rfl rfl ?_
    refine l_q rfl (q_assign rfl rfl) rfl rfl ?_
    refine l_nil ?_
    refine k_then ?_
    refine c_ret ?_
    refine drop0 ?_
    refine r_one rfl rfl ?_
    exact fun _ h => ⟨{ S with fl := giveL S.fl ks }, congrArg (fun z => Ending.returned (Value.int .i64 z)) (by rw [hks, cls_all]), ⟨by rw [hks]; exact hR.give hO t, fun _ hG => hG.give _⟩, h⟩
end Go.Proofs.Ytpfbagkjhchojaa
