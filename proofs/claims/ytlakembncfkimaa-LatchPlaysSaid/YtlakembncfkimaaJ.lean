/- latch: LatchPlays, parts -/
import Derived.Test.YtlakembncfkimaaI
import Derived.Test.YtlakembncfkimaaSt
import Derived.Test.YtlakembncfkimaaS10
set_option linter.unusedVariables false
set_option linter.unusedSimpArgs false
namespace Go.Proofs.Ytlakembncfkimaa
open Go.Sep Go.RowKit

theorem pull7 {n : Nat} {L : Env} {w0 : World} {D : List Nat} {H : List Ent} {F : Act → World → Prop} {a b c d e f g h : Ent} (k : Pre n L (St w0 D (h :: a :: b :: c :: d :: e :: f :: g :: H)) F) : Pre n L (St w0 D (a :: b :: c :: d :: e :: f :: g :: h :: H)) F := k.world _ (fun w s => s.perm (List.perm_middle (l₁ := [a, b, c, d, e, f, g]) (l₂ := H)))
theorem pull8 {n : Nat} {L : Env} {w0 : World} {D : List Nat} {H : List Ent} {F : Act → World → Prop} {a b c d e f g h i : Ent} (k : Pre n L (St w0 D (i :: a :: b :: c :: d :: e :: f :: g :: h :: H)) F) : Pre n L (St w0 D (a :: b :: c :: d :: e :: f :: g :: h :: i :: H)) F := k.world _ (fun w s => s.perm (List.perm_middle (l₁ := [a, b, c, d, e, f, g, h]) (l₂ := H)))
theorem pull9 {n : Nat} {L : Env} {w0 : World} {D : List Nat} {H : List Ent} {F : Act → World → Prop} {a b c d e f g h i j : Ent} (k : Pre n L (St w0 D (j :: a :: b :: c :: d :: e :: f :: g :: h :: i :: H)) F) : Pre n L (St w0 D (a :: b :: c :: d :: e :: f :: g :: h :: i :: j :: H)) F := k.world _ (fun w s => s.perm (List.perm_middle (l₁ := [a, b, c, d, e, f, g, h, i]) (l₂ := H)))
theorem gd {l : List Int} {k : Nat} (h : k < l.length) : l[k]? = some (l.getD k 0) := by simp [List.getD_eq_getElem?_getD, h]
theorem take_same {α : Type} {a b : List α} {k : Nat} {x y : α} (h : a.take k = b.take k) (hx : a[k]? = some x) (hy : b[k]? = some y) (e : x = y) : a.take (k + 1) = b.take (k + 1) := by
  subst e
  rw [List.take_add_one, List.take_add_one, hx, hy, h]

set_option maxRecDepth 100000 in
set_option maxHeartbeats 1000000 in
theorem sameints_spec {va vb : Value} (la lb : List Int) (hn : la.length ≤ 4611686018427387904) : Con Try.prog 24 [va, vb] (fun w => RdV w va (encI .i64) la ∧ RdV w vb (encI .i64) lb) [] (fun _ : Unit => .bool (decide (la = lb))) (fun _ => True) (fun _ => []) := by
  intro w hE hH
  obtain ⟨ha, hb⟩ := hE
  refine enter (n := 26) (vs := [va, vb]) (St w [] []) Try.func24 rfl rfl rfl (St.init hH) ?_
  refine c_seq ?_
  refine c_region _ rfl ?_
  refine l_q rfl (q_assign rfl rfl) rfl rfl ?_
  refine l_nil ?_
  refine k_then ?_
  refine c_seq ?_
  refine c_seq ?_
  refine c_region _ rfl ?_
  refine l_q rfl (q_move rfl rfl) rfl rfl ?_
  refine l_q rfl (q_lenV rfl Try.underlying27 rfl (fun _ h => ha.keep h (by simp [dom]))) rfl rfl ?_
  refine l_q rfl (q_move rfl rfl) rfl rfl ?_
  refine l_q rfl (q_lenV rfl Try.underlying27 rfl (fun _ h => hb.keep h (by simp [dom]))) rfl rfl ?_
  refine l_q rfl (q_neq rfl rfl rfl) rfl rfl ?_
  refine l_nil ?_
  refine k_then ?_
  refine Pre.caseB 10 rfl (fun hl => ?_) (fun hl => ?_)
  · simp only [decide_eq_true_eq, decide_eq_false_iff_not, Bool.not_eq_true', Bool.not_eq_false'] at hl
    refine c_true rfl ?_
    refine c_seq ?_
    refine c_region _ rfl ?_
    refine l_q rfl (q_assign rfl rfl) rfl rfl ?_
    refine l_nil ?_
    refine k_then ?_
    refine c_ret ?_
    refine k_then_ret ?_
    refine r_one rfl rfl ?_
    exact fun _ h => ⟨(), congrArg (fun z => Ending.returned (Value.bool z)) (decide_eq_false (fun e => hl (by rw [e]))).symm, trivial, h⟩
  · simp only [decide_eq_true_eq, decide_eq_false_iff_not, Bool.not_eq_true', Bool.not_eq_false'] at hl
    refine c_false rfl ?_
    refine c_skip ?_
    refine k_then ?_
    refine c_seq ?_
    refine c_seq ?_
    refine c_region _ rfl ?_
    refine l_q rfl (q_assign rfl rfl) rfl rfl ?_
    refine l_nil ?_
    refine k_then ?_
    refine c_block ?_
    refine c_loop1 (fun (k : Nat) => [(0, va), (1, vb), (5, .int .i64 (k : Int))]) (fun (k : Nat) => St w [] []) (fun (k : Nat) => k ≤ la.length ∧ la.take k = lb.take k) (fun (k : Nat) => la.length - k) (0) ⟨Nat.zero_le _, rfl⟩ (Sub.cons rfl (Sub.cons rfl (Sub.cons rfl (Sub.nil)))) (fun _ h => h) ?_
    intro k hk
    refine c_seq ?_
    refine c_seq ?_
    obtain ⟨hk, ht⟩ := hk
    refine c_region _ rfl ?_
    refine l_q rfl (q_move rfl rfl) rfl rfl ?_
    refine l_q rfl (q_move rfl rfl) rfl rfl ?_
    refine l_q rfl (q_lenV rfl Try.underlying27 rfl (fun _ h => ha.keep h (by simp [dom]))) rfl rfl ?_
    refine l_q rfl (q_lss rfl rfl rfl) rfl rfl ?_
    refine l_nil ?_
    refine k_then ?_
    refine Pre.caseB 14 rfl (fun hlt => ?_) (fun hlt => ?_)
    · simp only [decide_eq_true_eq, decide_eq_false_iff_not, Bool.not_eq_true', Bool.not_eq_false'] at hlt
      obtain ⟨x, hx⟩ : ∃ x, la[k]? = some x := ⟨_, List.getElem?_eq_getElem (by omega)⟩
      obtain ⟨y, hy⟩ : ∃ y, lb[k]? = some y := ⟨_, List.getElem?_eq_getElem (by omega)⟩
      refine c_true rfl ?_
      refine c_skip ?_
      refine k_then ?_
      refine c_seq ?_
      refine c_block ?_
      refine c_seq ?_
      refine c_draw [(0, some true), (1, some true), (2, some true), (3, some true), (4, some true), (5, some true), (6, some true), (7, some true), (8, some true)] [] [(_, some true), (_, some true), (_, some true), (_, some true), (_, some true), (_, some true), (_, some true), (_, some true), (_, some true)] _ (blind_then (blind_block (blind_then (blind_then (blind_block (blind_then blind_body)))))) rfl (by kernel_rfl) (by kernel_rfl) rfl rfl rfl (by kernel_rfl) St.drawn (fun _ h => h) ?_
      refine d_q rfl (q_move rfl rfl) rfl rfl ?_
      refine d_q rfl (q_move rfl rfl) rfl rfl ?_
      refine d_q rfl (q_indexV k rfl Try.underlying27 Try.sizeOf3 rfl (fun _ h => ha.keep h (by simp [dom])) rfl rfl (by omega)) rfl rfl ?_
      refine d_q rfl (q_loadV k 0 rfl Try.isAgg3 rfl rfl (fun _ h => ha.keep h (by simp [dom])) hx rfl) rfl rfl ?_
      refine d_q rfl (q_move rfl rfl) rfl rfl ?_
      refine d_q rfl (q_move rfl rfl) rfl rfl ?_
      refine d_q rfl (q_indexV k rfl Try.underlying27 Try.sizeOf3 rfl (fun _ h => hb.keep h (by simp [dom])) rfl rfl (by omega)) rfl rfl ?_
      refine d_q rfl (q_loadV k 0 rfl Try.isAgg3 rfl rfl (fun _ h => hb.keep h (by simp [dom])) hy rfl) rfl rfl ?_
      refine d_q rfl (q_neq rfl rfl rfl) rfl rfl ?_
      refine d_nil ?_
      refine k_then ?_
      refine Pre.caseB 25 rfl (fun hne => ?_) (fun hne => ?_)
      · simp only [decide_eq_true_eq, decide_eq_false_iff_not, Bool.not_eq_true', Bool.not_eq_false'] at hne
        refine c_true rfl ?_
        refine c_seq ?_
        refine c_region _ rfl ?_
        refine l_q rfl (q_assign rfl rfl) rfl rfl ?_
        refine l_nil ?_
        refine k_then ?_
        refine c_ret ?_
        refine k_block_ret ?_
        refine k_then_ret ?_
        refine k_then_ret ?_
        refine k_block_ret ?_
        refine k_then_ret ?_
        refine r_one rfl rfl ?_
        exact fun _ h => ⟨(), congrArg (fun z => Ending.returned (Value.bool z)) (decide_eq_false (fun e => hne (by rw [e, hy] at hx; exact (Option.some.inj hx).symm))).symm, trivial, h⟩
      · simp only [decide_eq_true_eq, decide_eq_false_iff_not, Bool.not_eq_true', Bool.not_eq_false'] at hne
        refine c_false rfl ?_
        refine c_skip ?_
        refine k_block ?_
        refine k_then ?_
        refine c_region _ rfl ?_
        refine l_q rfl (q_move rfl rfl) rfl rfl ?_
        refine l_q rfl (q_inc rfl rfl rfl (by omega)) rfl rfl ?_
        refine l_q rfl (q_assign rfl rfl) rfl rfl ?_
        refine l_nil ?_
        exact k_round (k + 1) (by omega) ⟨by omega, take_same ht hx hy hne⟩ (Sub.cons rfl (Sub.cons rfl (Sub.cons rfl (Sub.nil)))) (fun _ h => h)
    · simp only [decide_eq_true_eq, decide_eq_false_iff_not, Bool.not_eq_true', Bool.not_eq_false'] at hlt
      refine c_false rfl ?_
      refine c_exit ?_
      refine k_then_exit ?_
      refine k_then_exit ?_
      refine k_block_exit ?_
      refine k_then ?_
      refine c_seq ?_
      refine c_region _ rfl ?_
      refine l_q rfl (q_assign rfl rfl) rfl rfl ?_
      refine l_nil ?_
      refine k_then ?_
      refine c_ret ?_
      refine r_one rfl rfl ?_
      exact fun _ h => ⟨(), congrArg (fun z => Ending.returned (Value.bool z)) (decide_eq_true (by rw [List.take_of_length_le (by omega), List.take_of_length_le (by omega)] at ht; exact ht)).symm, trivial, h⟩
theorem q_neW {n : Nat} {L : Env} {X : World → Prop} {o : Oper} {t u : TypeId} {x y : Operand} (a b : Wt) (ht : t = 41) (ho : o.op = .binOp .neq t x y u) (hx : ev L x = some (.agg (encW.f a).toArray)) (hy : ev L y = some (.agg (encW.f b).toArray)) (ka : (Lit.int .i64 a.1).wf = true) (kb : (Lit.int .i64 b.1).wf = true) : QOp Try.prog n L X o (.bool (!decide (a = b))) := by
  subst ht
  have kk : ∀ c : Wt, (Lit.int .i64 c.1).wf = true → Kinds [Sc.i .i64, Sc.b] (encW.f c) := fun c hc => ⟨rfl, fun j k v hk hv => by
    match j with
    | 0 => cases hk; cases hv; exact ⟨_, rfl, hc⟩
    | 1 => cases hk; cases hv; exact ⟨_, rfl⟩
    | j + 2 => cases hk⟩
  refine q_neAgg (d := 3) (ks := [Sc.i .i64, Sc.b]) (decide (a = b)) (by kernel_rfl) (by kernel_rfl) (by decide) (by kernel_rfl) (by kernel_rfl) (by kernel_rfl) ho hx hy (kk a ka) (kk b kb) ?_
  obtain ⟨a1, a2⟩ := a
  obtain ⟨b1, b2⟩ := b
  simp [encW]
set_option maxRecDepth 100000 in
set_option maxHeartbeats 1000000 in
theorem samewants_spec {va vb : Value} (la lb : List Wt) (hwa : ∀ a ∈ la, (Lit.int .i64 a.1).wf = true) (hwb : ∀ a ∈ lb, (Lit.int .i64 a.1).wf = true) (hn : la.length ≤ 4611686018427387904) : Con Try.prog 31 [va, vb] (fun w => RdV w va encW la ∧ RdV w vb encW lb) [] (fun _ : Unit => .bool (decide (la = lb))) (fun _ => True) (fun _ => []) := by
  intro w hE hH
  obtain ⟨ha, hb⟩ := hE
  refine enter (n := 26) (vs := [va, vb]) (St w [] []) Try.func31 rfl rfl rfl (St.init hH) ?_
  refine c_seq ?_
  refine c_region _ rfl ?_
  refine l_q rfl (q_assign rfl rfl) rfl rfl ?_
  refine l_nil ?_
  refine k_then ?_
  refine c_seq ?_
  refine c_seq ?_
  refine c_region _ rfl ?_
  refine l_q rfl (q_move rfl rfl) rfl rfl ?_
  refine l_q rfl (q_lenV rfl Try.underlying33 rfl (fun _ h => ha.keep h (by simp [dom]))) rfl rfl ?_
  refine l_q rfl (q_move rfl rfl) rfl rfl ?_
  refine l_q rfl (q_lenV rfl Try.underlying33 rfl (fun _ h => hb.keep h (by simp [dom]))) rfl rfl ?_
  refine l_q rfl (q_neq rfl rfl rfl) rfl rfl ?_
  refine l_nil ?_
  refine k_then ?_
  refine Pre.caseB 10 rfl (fun hl => ?_) (fun hl => ?_)
  · simp only [decide_eq_true_eq, decide_eq_false_iff_not, Bool.not_eq_true', Bool.not_eq_false'] at hl
    refine c_true rfl ?_
    refine c_seq ?_
    refine c_region _ rfl ?_
    refine l_q rfl (q_assign rfl rfl) rfl rfl ?_
    refine l_nil ?_
    refine k_then ?_
    refine c_ret ?_
    refine k_then_ret ?_
    refine r_one rfl rfl ?_
    exact fun _ h => ⟨(), congrArg (fun z => Ending.returned (Value.bool z)) (decide_eq_false (fun e => hl (by rw [e]))).symm, trivial, h⟩
  · simp only [decide_eq_true_eq, decide_eq_false_iff_not, Bool.not_eq_true', Bool.not_eq_false'] at hl
    refine c_false rfl ?_
    refine c_skip ?_
    refine k_then ?_
    refine c_seq ?_
    refine c_seq ?_
    refine c_region _ rfl ?_
    refine l_q rfl (q_assign rfl rfl) rfl rfl ?_
    refine l_nil ?_
    refine k_then ?_
    refine c_block ?_
    refine c_loop1 (fun (k : Nat) => [(0, va), (1, vb), (5, .int .i64 (k : Int))]) (fun (k : Nat) => St w [] []) (fun (k : Nat) => k ≤ la.length ∧ la.take k = lb.take k) (fun (k : Nat) => la.length - k) (0) ⟨Nat.zero_le _, rfl⟩ (Sub.cons rfl (Sub.cons rfl (Sub.cons rfl (Sub.nil)))) (fun _ h => h) ?_
    intro k hk
    refine c_seq ?_
    refine c_seq ?_
    obtain ⟨hk, ht⟩ := hk
    refine c_region _ rfl ?_
    refine l_q rfl (q_move rfl rfl) rfl rfl ?_
    refine l_q rfl (q_move rfl rfl) rfl rfl ?_
    refine l_q rfl (q_lenV rfl Try.underlying33 rfl (fun _ h => ha.keep h (by simp [dom]))) rfl rfl ?_
    refine l_q rfl (q_lss rfl rfl rfl) rfl rfl ?_
    refine l_nil ?_
    refine k_then ?_
    refine Pre.caseB 14 rfl (fun hlt => ?_) (fun hlt => ?_)
    · simp only [decide_eq_true_eq, decide_eq_false_iff_not, Bool.not_eq_true', Bool.not_eq_false'] at hlt
      obtain ⟨x, hx⟩ : ∃ x, la[k]? = some x := ⟨_, List.getElem?_eq_getElem (by omega)⟩
      obtain ⟨y, hy⟩ : ∃ y, lb[k]? = some y := ⟨_, List.getElem?_eq_getElem (by omega)⟩
      refine c_true rfl ?_
      refine c_skip ?_
      refine k_then ?_
      refine c_seq ?_
      refine c_block ?_
      refine c_seq ?_
      refine c_draw [(0, some true), (1, some true), (2, some true), (3, some true), (4, some true), (5, some true), (6, some true), (7, some true), (8, some true)] [] [(_, some true), (_, some true), (_, some true), (_, some true), (_, some true), (_, some true), (_, some true), (_, some true), (_, some true)] _ (blind_then (blind_block (blind_then (blind_then (blind_block (blind_then blind_body)))))) rfl (by kernel_rfl) (by kernel_rfl) rfl rfl rfl (by kernel_rfl) St.drawn (fun _ h => h) ?_
      refine d_q rfl (q_move rfl rfl) rfl rfl ?_
      refine d_q rfl (q_move rfl rfl) rfl rfl ?_
      refine d_q rfl (q_indexV k rfl Try.underlying33 Try.sizeOf41 rfl (fun _ h => ha.keep h (by simp [dom])) rfl rfl (by omega)) rfl rfl ?_
      refine d_q rfl (q_loadVAgg k rfl Try.isAgg41 Try.sizeOf41 rfl rfl (fun _ h => ha.keep h (by simp [dom])) hx) rfl rfl ?_
      refine d_q rfl (q_move rfl rfl) rfl rfl ?_
      refine d_q rfl (q_move rfl rfl) rfl rfl ?_
      refine d_q rfl (q_indexV k rfl Try.underlying33 Try.sizeOf41 rfl (fun _ h => hb.keep h (by simp [dom])) rfl rfl (by omega)) rfl rfl ?_
      refine d_q rfl (q_loadVAgg k rfl Try.isAgg41 Try.sizeOf41 rfl rfl (fun _ h => hb.keep h (by simp [dom])) hy) rfl rfl ?_
      refine d_q rfl (q_neW x y rfl rfl rfl rfl (hwa x (List.mem_of_getElem? hx)) (hwb y (List.mem_of_getElem? hy))) rfl rfl ?_
      refine d_nil ?_
      refine k_then ?_
      refine Pre.caseB 25 rfl (fun hne => ?_) (fun hne => ?_)
      · simp only [decide_eq_true_eq, decide_eq_false_iff_not, Bool.not_eq_true', Bool.not_eq_false'] at hne
        refine c_true rfl ?_
        refine c_seq ?_
        refine c_region _ rfl ?_
        refine l_q rfl (q_assign rfl rfl) rfl rfl ?_
        refine l_nil ?_
        refine k_then ?_
        refine c_ret ?_
        refine k_block_ret ?_
        refine k_then_ret ?_
        refine k_then_ret ?_
        refine k_block_ret ?_
        refine k_then_ret ?_
        refine r_one rfl rfl ?_
        exact fun _ h => ⟨(), congrArg (fun z => Ending.returned (Value.bool z)) (decide_eq_false (fun e => hne (by rw [e, hy] at hx; exact (Option.some.inj hx).symm))).symm, trivial, h⟩
      · simp only [decide_eq_true_eq, decide_eq_false_iff_not, Bool.not_eq_true', Bool.not_eq_false'] at hne
        refine c_false rfl ?_
        refine c_skip ?_
        refine k_block ?_
        refine k_then ?_
        refine c_region _ rfl ?_
        refine l_q rfl (q_move rfl rfl) rfl rfl ?_
        refine l_q rfl (q_inc rfl rfl rfl (by omega)) rfl rfl ?_
        refine l_q rfl (q_assign rfl rfl) rfl rfl ?_
        refine l_nil ?_
        exact k_round (k + 1) (by omega) ⟨by omega, take_same ht hx hy hne⟩ (Sub.cons rfl (Sub.cons rfl (Sub.cons rfl (Sub.nil)))) (fun _ h => h)
    · simp only [decide_eq_true_eq, decide_eq_false_iff_not, Bool.not_eq_true', Bool.not_eq_false'] at hlt
      refine c_false rfl ?_
      refine c_exit ?_
      refine k_then_exit ?_
      refine k_then_exit ?_
      refine k_block_exit ?_
      refine k_then ?_
      refine c_seq ?_
      refine c_region _ rfl ?_
      refine l_q rfl (q_assign rfl rfl) rfl rfl ?_
      refine l_nil ?_
      refine k_then ?_
      refine c_ret ?_
      refine r_one rfl rfl ?_
      exact fun _ h => ⟨(), congrArg (fun z => Ending.returned (Value.bool z)) (decide_eq_true (by rw [List.take_of_length_le (by omega), List.take_of_length_le (by omega)] at ht; exact ht)).symm, trivial, h⟩
theorem pin_ok {m : La} {n : Nat} (h : m.Ok n) : La.Ok { m with pins := m.pins + 1 } (n + 1) := ⟨⟨h.nd, h.nn, h.srt, h.wr, h.ex⟩, Nat.le_succ_of_le h.len, by have := h.pn; show 0 ≤ m.pins + 1 ∧ m.pins + 1 ≤ _; omega⟩
theorem unpin_ok {m : La} {n : Nat} (h : m.Ok n) : (unpinL m).Ok n := by
  have hp := h.pn
  unfold unpinL
  split
  · exact h
  · exact ⟨⟨h.nd, h.nn, h.srt, h.wr, h.ex⟩, h.len, by show 0 ≤ m.pins - 1 ∧ m.pins - 1 ≤ _; omega⟩
/-- All numbers fit. -/
def Fits (m : La) : Prop := ∀ x ∈ tasks m, (Lit.int .i64 x).wf = true
theorem fit_new : Fits newL := by unfold Fits; decide
theorem fit_take {m : La} (h : Fits m) {t : Int} (ht : (Lit.int .i64 t).wf = true) (w : Bool) : Fits (takeL m t w) := by
  unfold takeL
  split
  · rename_i hm
    have h0 : 0 ≤ t := by unfold mayB at hm; simp at hm; exact hm.1
    split
    · rename_i hb
      unfold tryB at hb
      simp only [Bool.and_eq_true, decide_eq_true_eq] at hb
      intro x hx
      rcases List.mem_cons.1 ((give_tasks h0 hb.2).mem_iff.1 hx) with rfl | hx
      · exact ht
      · exact h x hx
    · intro x hx
      rcases List.mem_cons.1 ((queue_tasks m t w).mem_iff.1 hx) with rfl | hx
      · exact ht
      · exact h x hx
  · exact h
theorem fit_try {m : La} (h : Fits m) {t : Int} (ht : (Lit.int .i64 t).wf = true) (w : Bool) : Fits (tryL m t w) := by
  unfold tryL
  split
  · rename_i hb
    unfold tryB at hb
    simp only [Bool.and_eq_true, decide_eq_true_eq] at hb
    have hm := hb.1.1
    have h0 : 0 ≤ t := by unfold mayB at hm; simp at hm; exact hm.1
    intro x hx
    rcases List.mem_cons.1 ((give_tasks h0 hb.2).mem_iff.1 hx) with rfl | hx
    · exact ht
    · exact h x hx
  · exact h
theorem fit_drop {m : La} {n : Nat} (h : Fits m) (ho : m.Ok n) (t : Int) : Fits (dropL m t).2 := by
  unfold dropL
  split
  · exact h
  · rename_i h0
    have ht : 0 ≤ t := by omega
    have hl := letQ_ok (leaveL m t).q (leaveL m t) (leave_ok ho ht).toOk0
    intro x hx
    have hx' : x ∈ tasks (leaveL m t) := hl.2.mem_iff.1 hx
    rw [leave_tasks ho.toOk0 ht] at hx'
    exact h x (List.mem_filter.1 hx').1
theorem fit_down {m : La} {n : Nat} (h : Fits m) (ho : m.Ok n) (t : Int) : Fits (downL m t).2 := by
  unfold downL
  split
  · exact h
  · rename_i hc
    have h0 : 0 ≤ t ∧ m.wr = t := by
      refine ⟨by omega, ?_⟩
      by_cases e : m.wr = t
      · exact e
      · exact absurd (.inr e) hc
    obtain ⟨k1, k2⟩ := down_tasks ho h0.1 h0.2
    have hl := letQ_ok (giveL { m with wr := -1 } t false).q (giveL { m with wr := -1 } t false) k1.toOk0
    exact fun x hx => h x (k2.mem_iff.1 (hl.2.mem_iff.1 hx))
theorem Fits.q {m : La} (h : Fits m) : ∀ a ∈ m.q, (Lit.int .i64 a.1).wf = true := fun a ha => h _ (by
  have := List.mem_map_of_mem (f := Prod.fst) ha
  simp only [tasks, List.mem_append]
  exact .inr (.inr this))
theorem drop_len {m : La} {n : Nat} (ho : m.Ok n) (t : Int) : (dropL m t).1.length ≤ n := by
  unfold dropL
  split
  · exact Nat.zero_le _
  · rename_i h0
    have hs := letQ_split (leaveL m t).q (leaveL m t)
    have := congrArg List.length hs
    simp only [List.length_map, List.length_append] at this
    have h2 := (leave_ok ho (show 0 ≤ t by omega)).lens.2
    show (letQ (leaveL m t).q (leaveL m t)).1.length ≤ n
    omega
theorem down_len {m : La} {n : Nat} (ho : m.Ok n) (t : Int) : (downL m t).1.length ≤ n := by
  unfold downL
  split
  · exact Nat.zero_le _
  · rename_i hc
    have h0 : 0 ≤ t ∧ m.wr = t := by
      refine ⟨by omega, ?_⟩
      by_cases e : m.wr = t
      · exact e
      · exact absurd (.inr e) hc
    obtain ⟨k1, k2⟩ := down_tasks ho h0.1 h0.2
    have hs := letQ_split (giveL { m with wr := -1 } t false).q (giveL { m with wr := -1 } t false)
    have := congrArg List.length hs
    simp only [List.length_map, List.length_append] at this
    have h2 := k1.lens.2
    show (letQ (giveL { m with wr := -1 } t false).q _).1.length ≤ n
    omega
end Go.Proofs.Ytlakembncfkimaa
