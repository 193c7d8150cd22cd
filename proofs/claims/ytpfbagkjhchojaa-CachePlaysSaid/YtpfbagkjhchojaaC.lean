/- cache: its looks -/
import Derived.Test.YtpfbagkjhchojaaB
set_option linter.unusedVariables false
set_option linter.unusedSimpArgs false
namespace Go.Proofs.Ytpfbagkjhchojaa
open Go.Sep Go.RowKit

theorem hb_of {α : Type} {w0 w : World} {v : Value} {E : Enc α} {l : List α} {b : Nat} {φ : Option Obj → Prop} {H : List Ent} (h : RdV w0 v E l) (s : St w0 [] (⟨some b, φ⟩ :: H) w) : blk v ≠ b ∨ l = [] := by
  by_cases hl : l = []
  · exact .inr hl
  · refine .inl (fun e => ?_)
    have h1 := h.lt hl
    have h2 : b ∈ ([] : List Nat) ∨ w0.heap.size ≤ b := s.dom b (List.mem_cons_self ..)
    rcases h2 with h2 | h2
    · cases h2
    · omega
section
variable {n : Nat} {L : Env} {X : World → Prop} {o : Oper}
def wks : List Sc := [.i .i64, .i .i64, .b]
/-- Numbers that are integers of the program. -/
def i64 (z : Int) : Prop := (Lit.int .i64 z).wf = true
theorem i64_in {z : Int} (h0 : -60000 ≤ z) (h1 : z ≤ 60000) : i64 z := by
  unfold i64
  simp only [Lit.wf, Bool.and_eq_true, decide_eq_true_eq]
  exact ⟨by show (-2 ^ 63 : Int) ≤ _; omega, by show _ ≤ (2 ^ 63 - 1 : Int); omega⟩
theorem Wn.kinds {w : Wn} (ht : i64 w.t) (hb : i64 w.b) : Kinds wks w.c := by
  refine ⟨rfl, fun j k v h1 h2 => ?_⟩
  match j with
  | 0 => cases h1; cases h2; exact ⟨_, rfl, ht⟩
  | 1 => cases h1; cases h2; exact ⟨_, rfl, hb⟩
  | 2 => cases h1; cases h2; exact ⟨_, rfl⟩
  | j + 3 => simp [wks] at h1
theorem Wn.c_inj {a b : Wn} : a.c = b.c ↔ a = b := by
  refine ⟨fun h => ?_, fun h => by rw [h]⟩
  simp only [Wn.c, List.cons.injEq, Value.int.injEq, Value.bool.injEq, true_and, and_true] at h
  exact Wn.ext' h.1 h.2.1 h.2.2
theorem q_eqW {u : TypeId} {x y : Operand} (k j : Wn) (hk : i64 k.t ∧ i64 k.b) (hj : i64 j.t ∧ i64 j.b) (ho : o.op = .binOp .eql 83 x y u) (hx : ev L x = some (.agg k.c.toArray)) (hy : ev L y = some (.agg j.c.toArray)) : QOp Try.prog n L X o (.bool (decide (k = j))) :=
  q_eqAgg (d := 3) (ks := wks) _ (by kernel_rfl) (by kernel_rfl) (by decide) (by kernel_rfl) (by kernel_rfl) (by kernel_rfl) ho hx hy (Wn.kinds hk.1 hk.2) (Wn.kinds hj.1 hj.2) (by rw [Wn.c_inj, decide_eq_true_eq])
end
theorem wn_eq {p q : Int × Int} : decide (wn p = wn q) = decide (p = q) := by
  rw [decide_eq_decide]
  refine ⟨fun h => ?_, fun h => by rw [h]⟩
  have h1 := congrArg Wn.t h
  have h2 := congrArg Wn.b h
  exact Prod.ext h1 h2
theorem kv_at {S : CS} {m : Array MapEntry} (h : m.toList.map (fun e => (e.key, e.val)) = S.ld.map (fun p => (kI p.1, vS p.2))) {e : MapEntry} (he : e ∈ m.toList) : ∃ (i : Nat) (q : Int × (Sv × List Int)), m[i]? = some e ∧ S.ld[i]? = some q ∧ e.val = q.2.1.v := by
  obtain ⟨i, hi⟩ := List.mem_iff_getElem?.1 he
  have h1 : (m.toList.map (fun e => (e.key, e.val)))[i]? = some (e.key, e.val) := by rw [List.getElem?_map, hi]; rfl
  rw [h, List.getElem?_map, Option.map_eq_some_iff] at h1
  obtain ⟨q, hq, e2⟩ := h1
  exact ⟨i, q, by simpa using hi, hq, (congrArg Prod.snd e2).symm⟩
theorem at_kv {S : CS} {m : Array MapEntry} (h : m.toList.map (fun e => (e.key, e.val)) = S.ld.map (fun p => (kI p.1, vS p.2))) {q : Int × (Sv × List Int)} (hq : q ∈ S.ld) : ∃ (i : Nat) (e : MapEntry), S.ld[i]? = some q ∧ m[i]? = some e ∧ e ∈ m.toList := by
  obtain ⟨i, hi⟩ := List.mem_iff_getElem?.1 hq
  have hl := congrArg List.length h
  simp only [List.length_map, Array.length_toList] at hl
  have hlt := (List.getElem?_eq_some_iff.1 hi).1
  exact ⟨i, m[i], hi, Array.getElem?_eq_getElem (by omega), by simp⟩
theorem born_inj {m : Array MapEntry} (hn : (m.toList.map (·.born)).Nodup) {i j : Nat} {e f : MapEntry} (he : m[i]? = some e) (hf : m[j]? = some f) (h : e.born = f.born) : i = j := by
  have hi := (Array.getElem?_eq_some_iff.1 he).1
  have hj := (Array.getElem?_eq_some_iff.1 hf).1
  refine (List.getElem_inj (h₀ := by simpa using hi) (h₁ := by simpa using hj) hn).1 ?_
  have e1 := (Array.getElem?_eq_some_iff.1 he).2
  have e2 := (Array.getElem?_eq_some_iff.1 hf).2
  simp [e1, e2, h]
theorem isSome_mem {l : List Int} {t : Int} : (fst1 (fun z => decide (z = t)) l).isSome = true ↔ t ∈ l := by
  constructor
  · intro h
    obtain ⟨k, hk⟩ := Option.isSome_iff_exists.1 h
    obtain ⟨y, hy, hp, _⟩ := fst1_at hk
    have := of_decide_eq_true hp
    subst this; exact List.mem_of_getElem? hy
  · intro h
    cases hf : fst1 (fun z => decide (z = t)) l with
    | some _ => rfl
    | none => have := fst1_no hf t h; simp at this

set_option maxRecDepth 100000 in
set_option maxHeartbeats 1000000 in
theorem frame_spec {bc : Nat} {S : CS} {M : Mo} {B : Nat} (hR : Rel S M) (hO : M.Ok B) (b st : Int) : Con Try.prog 46 [.pointer (some ⟨bc, 0, none⟩), .int .i64 b, .int .i64 st] (fun w => CR w bc S) [] (fun _ : Unit => fpo S.vF (M.frI b st)) (fun _ => True) (fun _ => []) := by
  intro w hC hH
  refine enter (n := 31) (vs := [.pointer (some ⟨bc, 0, none⟩), .int .i64 b, .int .i64 st]) (St w [] []) Try.func46 rfl rfl rfl (St.init hH) ?_
  refine c_seq ?_
  refine c_region _ rfl ?_
  refine l_q rfl (q_assign rfl rfl) rfl rfl ?_
  refine l_nil ?_
  refine k_then ?_
  refine c_seq ?_
  refine c_region _ rfl ?_
  refine l_q rfl (q_move rfl rfl) rfl rfl ?_
  refine l_q rfl (q_move rfl rfl) rfl rfl ?_
  refine l_e rfl ?_
  refine e_call_00 (place_spec hR hO b) rfl rfl rfl Try.call38 rfl (fun _ h => CR.keep hC h) ?_
  intro _ _
  refine l_q rfl (q_assign rfl rfl) rfl rfl ?_
  refine l_nil ?_
  refine k_then ?_
  refine c_seq ?_
  refine c_seq ?_
  refine opt_cases (M.find b) (fun hf => ?_) (fun i hf => ?_)
  · refine Pre.setV (t := 7) (c := .int .i64 (-1)) rfl (by rw [hf]; rfl) ?_
    refine c_region _ rfl ?_
    refine l_q rfl (q_move rfl rfl) rfl rfl ?_
    refine l_q rfl (q_lss rfl rfl rfl) rfl rfl ?_
    refine l_q rfl (q_move rfl rfl) rfl rfl ?_
    refine Pre.setB (t := 13) (c := true) rfl (rfl) ?_
    refine l_not rfl rfl rfl ?_
    refine l_not rfl rfl rfl ?_
    refine l_not rfl rfl rfl ?_
    refine l_not rfl rfl rfl ?_
    refine l_not rfl rfl rfl ?_
    refine l_not rfl rfl rfl ?_
    refine l_not rfl rfl rfl ?_
    refine l_not rfl rfl rfl ?_
    refine l_not rfl rfl rfl ?_
    refine l_not rfl rfl rfl ?_
    refine l_q rfl (q_pick_t rfl rfl rfl) rfl rfl ?_
    refine l_nil ?_
    refine k_then ?_
    refine c_true rfl ?_
    refine c_seq ?_
    refine c_region _ rfl ?_
    refine l_q rfl (q_assign rfl rfl) rfl rfl ?_
    refine l_nil ?_
    refine k_then ?_
    refine c_ret ?_
    refine k_then_ret ?_
    refine r_one rfl rfl ?_
    exact fun _ h => ⟨(), congrArg (fun z => Ending.returned z) (by unfold Mo.frI; rw [hf]; rfl), trivial, h.nothing⟩
  · obtain ⟨y, hy, hyb, hys, hya⟩ := find_at hf
    obtain ⟨f, hfi, hfy⟩ := hR.get hy
    have hlt := (List.getElem?_eq_some_iff.1 hfi).1
    have hst : (M.at' i).st = f.st := by rw [hya, ← hfy]; rfl
    refine Pre.setV (t := 7) (c := .int .i64 (i : Int)) rfl (by rw [hf]; rfl) ?_
    refine c_region _ rfl ?_
    refine l_q rfl (q_move rfl rfl) rfl rfl ?_
    refine l_q rfl (q_lss rfl rfl rfl) rfl rfl ?_
    refine l_q rfl (q_move rfl rfl) rfl rfl ?_
    refine Pre.setB (t := 13) (c := false) rfl (decide_eq_false (by omega)) ?_
    refine l_q rfl (q_move rfl rfl) rfl rfl ?_
    refine l_q rfl (q_nilCheck rfl rfl) rfl rfl ?_
    refine l_q rfl (q_fieldAddr rfl Try.underlying78 rfl Try.sizeOf75 rfl rfl) rfl rfl ?_
    refine l_q rfl (q_loadC rfl Try.isAgg75 rfl (fun _ h => (CR.keep hC h).c) rfl) rfl rfl ?_
    refine l_q rfl (q_move rfl rfl) rfl rfl ?_
    refine l_q rfl (q_indexV i rfl Try.underlying75 Try.sizeOf80 rfl (fun _ h => hC.f.keep h (by simp [dom])) rfl rfl (by omega)) rfl rfl ?_
    refine l_q rfl (q_fieldAddr rfl Try.underlying80 rfl Try.sizeOf3 rfl rfl) rfl rfl ?_
    refine l_q rfl (q_loadV i 0 rfl Try.isAgg3 rfl rfl (fun _ h => hC.f.keep h (by simp [dom])) hfi rfl) rfl rfl ?_
    refine l_q rfl (q_move rfl rfl) rfl rfl ?_
    refine l_q rfl (q_neq rfl rfl rfl) rfl rfl ?_
    refine l_q rfl (q_pick_f rfl rfl rfl) rfl rfl ?_
    refine l_nil ?_
    refine k_then ?_
    refine Pre.caseB 24 rfl (fun hs => ?_) (fun hs => ?_)
    · try simp only [decide_eq_true_eq, decide_eq_false_iff_not, Bool.not_eq_true', Bool.not_eq_false'] at hs
      refine c_true rfl ?_
      refine c_seq ?_
      refine c_region _ rfl ?_
      refine l_q rfl (q_assign rfl rfl) rfl rfl ?_
      refine l_nil ?_
      refine k_then ?_
      refine c_ret ?_
      refine k_then_ret ?_
      refine r_one rfl rfl ?_
      exact fun _ h => ⟨(), congrArg (fun z => Ending.returned z) (by unfold Mo.frI; rw [hf]; simp only; rw [if_neg (by rw [hst]; exact hs)]; rfl), trivial, h.nothing⟩
    · try simp only [decide_eq_true_eq, decide_eq_false_iff_not, Bool.not_eq_true', Bool.not_eq_false'] at hs
      refine c_false rfl ?_
      refine c_skip ?_
      refine k_then ?_
      refine c_seq ?_
      refine c_region _ rfl ?_
      refine l_q rfl (q_move rfl rfl) rfl rfl ?_
      refine l_q rfl (q_nilCheck rfl rfl) rfl rfl ?_
      refine l_q rfl (q_fieldAddr rfl Try.underlying78 rfl Try.sizeOf75 rfl rfl) rfl rfl ?_
      refine l_q rfl (q_loadC rfl Try.isAgg75 rfl (fun _ h => (CR.keep hC h).c) rfl) rfl rfl ?_
      refine l_q rfl (q_move rfl rfl) rfl rfl ?_
      refine l_q rfl (q_indexV i rfl Try.underlying75 Try.sizeOf80 rfl (fun _ h => hC.f.keep h (by simp [dom])) rfl rfl (by omega)) rfl rfl ?_
      refine l_q rfl (q_assign rfl rfl) rfl rfl ?_
      refine l_nil ?_
      refine k_then ?_
      refine c_ret ?_
      refine r_one rfl rfl ?_
      exact fun _ h => ⟨(), congrArg (fun z => Ending.returned z) (by unfold Mo.frI; rw [hf]; simp only; rw [if_pos (by rw [hst]; exact hs)]; rfl), trivial, h.nothing⟩
set_option maxRecDepth 100000 in
set_option maxHeartbeats 1000000 in
theorem stands_spec {bc : Nat} {S : CS} {M : Mo} {B : Nat} (hR : Rel S M) (hO : M.Ok B) (t : Int) : Con Try.prog 45 [.pointer (some ⟨bc, 0, none⟩), .int .i64 t] (fun w => CR w bc S) [] (fun _ : Unit => .int .i64 (io (M.stand t))) (fun _ => True) (fun _ => []) := by
  intro w hC hH
  refine enter (n := 11) (vs := [.pointer (some ⟨bc, 0, none⟩), .int .i64 t]) (St w [] []) Try.func45 rfl rfl rfl (St.init hH) ?_
  refine c_seq ?_
  refine c_region _ rfl ?_
  refine l_e rfl ?_
  refine e_box rfl rfl rfl rfl ?_
  intro bt
  refine cells_eq (show _ = [.int .i64 t] from rfl) ?_
  refine l_q rfl (q_assign rfl rfl) rfl rfl ?_
  refine l_nil ?_
  refine k_then ?_
  refine c_seq ?_
  refine c_region _ rfl ?_
  refine l_q rfl (q_move rfl rfl) rfl rfl ?_
  refine l_q rfl (q_nilCheck rfl rfl) rfl rfl ?_
  refine l_q rfl (q_fieldAddr rfl Try.underlying78 rfl Try.sizeOf76 rfl rfl) rfl rfl ?_
  refine l_q rfl (q_loadC rfl Try.isAgg76 rfl (fun _ h => (CR.keep hC h).c) rfl) rfl rfl ?_
  refine l_q rfl (q_makeFunc (fn := .func 0) (us := #[.pointer (some ⟨bt, 0, none⟩)]) 72 rfl (vs := #[]) (fun a k => by simp) (fun a k => by simp [k.eval (x := .tmp 3) rfl])) rfl rfl ?_
  refine Pre.fact (fun _ h => hb_of hC.l h) ?_
  intro hb
  refine l_e rfl ?_
  refine e_call_11 (indexf_spec S.ln bt hb t (by have := hR.lnl; have := hO.lB; have := hO.B9; omega)) rfl rfl rfl Try.call71 rfl (fun _ h => (CR.keep hC h).l) ?_
  intro _ _
  refine l_q rfl (q_assign rfl rfl) rfl rfl ?_
  refine l_nil ?_
  refine k_then ?_
  refine c_ret ?_
  refine r_one rfl rfl ?_
  exact fun _ h => ⟨(), congrArg (fun z => Ending.returned (Value.int .i64 z)) (by rw [stand_eq hR]), trivial, h.nothing⟩
set_option maxRecDepth 100000 in
set_option maxHeartbeats 1000000 in
theorem waits_spec {bc : Nat} {S : CS} {M : Mo} {B : Nat} (hR : Rel S M) (hO : M.Ok B) (t : Int) : Con Try.prog 44 [.pointer (some ⟨bc, 0, none⟩), .int .i64 t] (fun w => CR w bc S) [] (fun _ : Unit => .bool (M.waits t)) (fun _ => True) (fun _ => []) := by
  intro w hC hH
  refine enter (n := 19) (vs := [.pointer (some ⟨bc, 0, none⟩), .int .i64 t]) (St w [] []) Try.func44 rfl rfl rfl (St.init hH) ?_
  refine c_seq ?_
  refine c_region _ rfl ?_
  refine l_q rfl (q_assign rfl rfl) rfl rfl ?_
  refine l_nil ?_
  refine k_then ?_
  refine c_seq ?_
  refine c_seq ?_
  refine c_region _ rfl ?_
  refine l_q rfl (q_move rfl rfl) rfl rfl ?_
  refine l_q rfl (q_nilCheck rfl rfl) rfl rfl ?_
  refine l_q rfl (q_fieldAddr rfl Try.underlying78 rfl Try.sizeOf74 rfl rfl) rfl rfl ?_
  refine l_q rfl (q_loadC rfl Try.isAgg74 rfl (fun _ h => (CR.keep hC h).c) rfl) rfl rfl ?_
  obtain ⟨m, c, hm, hkv, hT⟩ := mapT_obj hC.m
  have hX : mapX S.bL m c w := hm
  refine l_e rfl ?_
  refine e_range rfl rfl rfl Try.underlying74 rfl (fun _ h => mapX_keep hX h (by simp)) ?_
  intro r
  refine l_nil ?_
  refine k_then ?_
  refine c_block ?_
  refine c_loop1 (fun (seen : Array Nat) => [(1, .int .i64 t), (11, .pointer (some ⟨r, 0, none⟩))]) (fun (seen : Array Nat) => St w [] [itE r S.bL c seen]) (fun (seen : Array Nat) => ∀ (i : Nat) (e : MapEntry) (q : Int × (Sv × List Int)), m[i]? = some e → S.ld[i]? = some q → seen.contains e.born = true → t ∉ q.2.2) (fun (seen : Array Nat) => leftN m seen) (#[]) (fun i e q h1 h2 h3 => by simp at h3) (Sub.cons rfl (Sub.cons rfl (Sub.nil))) (fun _ h => h) ?_
  intro seen hp
  refine c_seq ?_
  refine c_region _ rfl ?_
  refine l_e rfl ?_
  refine e_next rfl rfl rfl rfl hT.1 (fun _ h => mapX_keep hX h (by simp)) (fun h0 => ?_) (fun e he => ?_)
  · refine l_q rfl (q_extract rfl rfl rfl) rfl rfl ?_
    refine l_nil ?_
    refine k_then ?_
    refine c_seq ?_
    refine c_false rfl ?_
    refine c_exit ?_
    refine k_then_exit ?_
    refine k_then_exit ?_
    refine k_block_exit ?_
    refine k_then ?_
    refine c_seq ?_
    refine c_region _ rfl ?_
    refine l_q rfl (q_assign rfl rfl) rfl rfl ?_
    refine l_nil ?_
    refine k_then ?_
    refine c_ret ?_
    refine drop0 ?_
    have hno := left_none h0
    refine r_one rfl rfl ?_
    exact fun _ h => ⟨(), congrArg (fun z => Ending.returned (Value.bool z)) ((by
          rw [Bool.eq_false_iff] 
          intro hw
          obtain ⟨q, hq, ht⟩ := (waits_iff hR t).1 hw
          obtain ⟨i, e, h1, h2, h3⟩ := at_kv hkv hq
          exact hp i e q h2 h1 (hno e h3) ht : M.waits t = false).symm), trivial, h.nothing⟩
  · obtain ⟨hem, hes⟩ := left_mem he
    obtain ⟨i, q, hmi, hqi, hval⟩ := kv_at hkv hem
    have hq := List.mem_of_getElem? hqi
    refine l_q rfl (q_extract rfl rfl rfl) rfl rfl ?_
    refine l_nil ?_
    refine k_then ?_
    refine c_seq ?_
    refine c_true rfl ?_
    refine c_skip ?_
    refine k_then ?_
    refine c_block ?_
    refine c_seq ?_
    refine c_region _ rfl ?_
    refine l_q rfl (q_entry rfl rfl hT.2 hem (fun _ h => mapX_keep hX h (by simp)) (fun _ h => h.at 0 rfl)) rfl rfl ?_
    refine l_q rfl (q_extract rfl rfl rfl) rfl rfl ?_
    refine l_q rfl (q_assign rfl rfl) rfl rfl ?_
    refine l_nil ?_
    refine k_then ?_
    refine c_seq ?_
    refine Pre.setV (t := 6) (c := q.2.1.v) rfl (hval) ?_
    refine c_region _ rfl ?_
    refine l_q rfl (q_move rfl rfl) rfl rfl ?_
    refine l_q rfl (q_move rfl rfl) rfl rfl ?_
    have hqm : mget q.1 S.ld = some q.2 := mem_mget hR.nd hq
    have hql : q.2.2.length ≤ 65536 := by
      have h1 := hR.ld q.1
      rw [hqm] at h1
      have h2 : q.2.2 = M.told q.1 := h1.symm
      rw [h2]; unfold Mo.told
      rw [List.length_map]
      exact Nat.le_trans (List.length_filter_le _ _) (by have := hO.ll; have := hO.B9; omega)
    refine l_e rfl ?_
    refine e_call_00 (contains_spec q.2.2 t hql) rfl rfl rfl Try.call70 rfl (fun _ h => (hC.r q hq).keep h (by simp)) ?_
    intro _ _
    refine l_nil ?_
    refine k_then ?_
    refine Pre.caseB 18 rfl (fun hc => ?_) (fun hc => ?_)
    · refine c_true rfl ?_
      refine c_seq ?_
      refine c_region _ rfl ?_
      refine l_q rfl (q_assign rfl rfl) rfl rfl ?_
      refine l_nil ?_
      refine k_then ?_
      refine c_ret ?_
      refine k_block_ret ?_
      refine k_then_ret ?_
      refine k_block_ret ?_
      refine k_then_ret ?_
      refine r_one rfl rfl ?_
      exact fun _ h => ⟨(), congrArg (fun z => Ending.returned (Value.bool z)) (((waits_iff hR t).2 ⟨q, hq, isSome_mem.1 hc⟩).symm), trivial, h.nothing⟩
    · refine c_false rfl ?_
      refine c_skip ?_
      refine k_block ?_
      exact k_round (seen.push e.born) (left_less he) (fun i' e' q' h1 h2 h3 ht => by
          rw [Array.contains_push, Bool.or_eq_true] at h3
          rcases h3.symm with h3 | h3
          · have hb : e'.born = e.born := by first | exact (beq_iff_eq.1 h3).symm | exact beq_iff_eq.1 h3
            have := born_inj hT.2 h1 hmi hb
            subst this
            rw [hqi] at h2; cases h2
            have := isSome_mem.2 ht
            rw [hc] at this; cases this
          · exact hp i' e' q' h1 h2 h3 ht) (Sub.cons rfl (Sub.cons rfl (Sub.nil))) (fun _ h => h)
end Go.Proofs.Ytpfbagkjhchojaa
