/- HistTurned, walked -/
import Derived.Test.YthfdmeikpbkpaaaT
import Derived.Test.YthfdmeikpbkpaaaU
set_option linter.unusedVariables false
set_option linter.unusedSimpArgs false
namespace Go.Proofs.Ythfdmeikpbkpaaa
open Go.Sep Go.RowKit

theorem rr_ops {b : OpsR} {m : Nat} {w : World} (h : RdV w b.vo encSv (b.vs m)) (h0 : RdV w b.q0.v Op.enc b.o0) (h1 : RdV w b.q1.v Op.enc b.o1) (h2 : RdV w b.q2.v Op.enc b.o2) (h3 : RdV w b.q3.v Op.enc b.o3) : RR w b.vo (b.vs m) (b.ops m) := by
  refine ⟨h, by unfold OpsR.vs OpsR.ops; rw [List.length_take, List.length_take]; rfl, fun i s o g1 g2 => ?_⟩
  unfold OpsR.vs at g1
  unfold OpsR.ops at g2
  rw [List.getElem?_take] at g1 g2
  split at g1
  · rename_i hi
    rw [if_pos hi] at g2
    match i with
    | 0 => cases g1; cases g2; exact h0
    | 1 => cases g1; cases g2; exact h1
    | 2 => cases g1; cases g2; exact h2
    | 3 => cases g1; cases g2; exact h3
    | i + 4 => simp at g1
  · cases g1
theorem ops_len (b : OpsR) (m : Nat) : (b.ops m).length ≤ 65536 := by unfold OpsR.ops; have := List.length_take_le m [b.o0, b.o1, b.o2, b.o3]; rw [List.length_take]; show min m 4 ≤ _; omega
theorem ops_each {b : OpsR} (h : b.o0.length ≤ 96 ∧ b.o1.length ≤ 96 ∧ b.o2.length ≤ 96 ∧ b.o3.length ≤ 96) (m : Nat) : ∀ o ∈ b.ops m, o.length ≤ 65536 := fun o ho => by
  have := List.mem_of_mem_take ho
  simp only [List.mem_cons, List.not_mem_nil, or_false] at this
  rcases this with rfl | rfl | rfl | rfl <;> omega

/-! ## A history with one event left out, or put in twice -/
def outL (l : List Ev) (k : Nat) (b : Bool) (i : Nat) : List Ev := if b = true then (if i ≤ k then l.take i else l.take k ++ (l.take i).drop (k + 1)) else (if i ≤ k then l.take i else l.take (k + 1) ++ (l.take i).drop k)
def lstB (l : List Ev) (k : Nat) (c : Int) (i : Nat) : Bool := !(((l.take i).drop (k + 1)).any (fun e => decide (e.client = c)))
theorem drop_snoc {l : List Ev} {i k : Nat} {x : Ev} (h : l[i]? = some x) (hk : k ≤ i) : (l.take (i + 1)).drop k = (l.take i).drop k ++ [x] := by
  have hlt := (List.getElem?_eq_some_iff.1 h).1
  rw [List.take_add_one, h, List.drop_append_of_le_length (by rw [List.length_take]; omega)]
  rfl
theorem out_lt {l : List Ev} {i k : Nat} {x : Ev} (b : Bool) (h : l[i]? = some x) (hk : i < k) : outL l k b (i + 1) = outL l k b i ++ [x] := by
  unfold outL
  rw [if_pos (show i + 1 ≤ k by omega), if_pos (show i + 1 ≤ k by omega), if_pos (show i ≤ k by omega), if_pos (show i ≤ k by omega), List.take_add_one, h]
  cases b <;> rfl
theorem out_gt {l : List Ev} {i k : Nat} {x : Ev} (b : Bool) (h : l[i]? = some x) (hk : k < i) : outL l k b (i + 1) = outL l k b i ++ [x] := by
  unfold outL
  rw [if_neg (show ¬ i + 1 ≤ k by omega), if_neg (show ¬ i + 1 ≤ k by omega), if_neg (show ¬ i ≤ k by omega), if_neg (show ¬ i ≤ k by omega), drop_snoc h (show k + 1 ≤ i by omega), drop_snoc h (show k ≤ i by omega)]
  cases b <;> simp [List.append_assoc]
theorem out_at_t {l : List Ev} {i k : Nat} (e : i = k) : outL l k true (i + 1) = outL l k true i := by
  subst e
  unfold outL
  rw [if_pos rfl, if_pos rfl, if_neg (by omega), if_pos (Nat.le_refl _), List.drop_eq_nil_of_le (by rw [List.length_take]; omega), List.append_nil]
theorem out_at_f {l : List Ev} {i k : Nat} {x : Ev} (h : l[i]? = some x) (e : i = k) : outL l k false (i + 1) = (outL l k false i ++ [x]) ++ [x] := by
  subst e
  unfold outL
  simp only [Bool.false_eq_true, if_false]
  rw [if_neg (by omega), if_pos (Nat.le_refl _), drop_snoc h (Nat.le_refl _), List.take_add_one, h, List.drop_eq_nil_of_le (by rw [List.length_take]; omega)]
  rfl
theorem out_len (l : List Ev) (k : Nat) (b : Bool) (i : Nat) : (outL l k b i).length ≤ 2 * i + 1 := by
  unfold outL
  cases b <;> simp only [if_true, Bool.false_eq_true, if_false] <;> split <;> simp only [List.length_append, List.length_take, List.length_drop] <;> omega
theorem lst_le {l : List Ev} {i k : Nat} (c : Int) (h : i ≤ k) : lstB l k c (i + 1) = true := by
  unfold lstB
  rw [List.drop_eq_nil_of_le (by rw [List.length_take]; omega)]; rfl
theorem lst_gt {l : List Ev} {i k : Nat} {x : Ev} (c : Int) (hx : l[i]? = some x) (h : k < i) : lstB l k c (i + 1) = (lstB l k c i && !decide (x.client = c)) := by
  unfold lstB
  rw [drop_snoc hx (by omega), List.any_append]
  simp
theorem out_end_t {l : List Ev} {k : Nat} (h : k < l.length) : outL l k true l.length = l.take k ++ l.drop (k + 1) := by
  unfold outL
  rw [if_pos rfl, if_neg (by omega), List.take_length]
theorem out_end_f {l : List Ev} {k : Nat} (h : k < l.length) : outL l k false l.length = l.take (k + 1) ++ l.drop k := by
  unfold outL
  rw [if_neg (by decide), if_neg (by omega), List.take_length]
theorem lst_end {l : List Ev} {k : Nat} (c : Int) : lstB l k c l.length = !((l.drop (k + 1)).any (fun e => decide (e.client = c))) := by unfold lstB; rw [List.take_length]

set_option maxRecDepth 100000 in
set_option maxHeartbeats 1000000 in
theorem turned_spec {v1 v2 : Value} (n : Int) (l1 l2 : List Int) (at1 : Int) (wh : Int) : Con Try.prog 7 [.int .i64 n, v1, v2, .int .i64 at1, .int .i64 wh] (fun w => RdV w v1 (encI .i64) l1 ∧ RdV w v2 (encI .i64) l2) [] (fun _ : Unit => .bool true) (fun _ => True) (fun _ => []) := by
  intro w hE hH
  obtain ⟨hl1, hl2⟩ := hE
  refine enter (n := 107) (vs := [.int .i64 n, v1, v2, .int .i64 at1, .int .i64 wh]) (St w [] []) Try.func7 rfl rfl rfl (St.init hH) ?_
  refine c_seq ?_
  refine c_region _ rfl ?_
  refine l_q rfl (q_assign rfl rfl) rfl rfl ?_
  refine l_nil ?_
  refine k_then ?_
  refine c_seq ?_
  refine c_region _ rfl ?_
  refine l_q rfl (q_move rfl rfl) rfl rfl ?_
  refine l_q rfl (q_move rfl rfl) rfl rfl ?_
  refine l_e rfl ?_
  refine e_call_00 (place_spec n 4 (by decide) (by decide)) rfl rfl rfl Try.call9 rfl (fun _ _ => trivial) ?_
  intro _ _
  refine l_q rfl (q_add64 rfl rfl rfl (by omega)) rfl rfl ?_
  obtain ⟨m, hm, h1m, hm4⟩ : ∃ m : Nat, 1 + n % 4 = (m : Int) ∧ 1 ≤ m ∧ m ≤ 4 := ⟨(1 + n % 4).toNat, by omega, by omega, by omega⟩
  refine Pre.setV (t := 20) (c := .int .i64 (m : Int)) rfl (by rw [hm]) ?_
  refine l_e rfl ?_
  refine e_call_05 (ops_ex l1 m h1m hm4) rfl rfl rfl Try.call8 rfl (fun _ h => hl1.keep h (by simp [dom])) ?_
  intro b hb
  refine l_q rfl (q_assign rfl rfl) rfl rfl ?_
  refine l_nil ?_
  refine k_then ?_
  refine c_seq ?_
  refine c_region _ rfl ?_
  refine l_q rfl (q_move rfl rfl) rfl rfl ?_
  refine l_q rfl (q_move rfl rfl) rfl rfl ?_
  have hO := ops_each hb m
  have hol := ops_len b m
  have ho4 : (b.ops m).length ≤ 4 := by unfold OpsR.ops; rw [List.length_take]; show min m 4 ≤ _; omega
  refine l_e rfl ?_
  refine e_call_01 (told_ex l2 (b.vs m) (b.ops m) hol hO) rfl rfl rfl Try.call10 rfl (fun _ h => ⟨hl2.keep h (by simp [dom]), (rr_ops (h.rd 0 rfl) (h.rd 1 rfl) (h.rd 2 rfl) (h.rd 3 rfl) (h.rd 4 rfl))⟩) ?_
  intro e he
  refine l_q rfl (q_assign rfl rfl) rfl rfl ?_
  refine l_nil ?_
  refine k_then ?_
  refine c_seq ?_
  refine c_seq ?_
  refine c_region _ rfl ?_
  refine l_q rfl (q_move rfl rfl) rfl rfl ?_
  refine l_q rfl (q_lenV rfl Try.underlying26 rfl (fun _ h => h.rd 0 rfl)) rfl rfl ?_
  refine l_q rfl (q_eql rfl rfl rfl) rfl rfl ?_
  refine l_q rfl (q_move rfl rfl) rfl rfl ?_
  have hn : e.2.length ≤ 65536 := by omega
  refine Pre.caseB 28 rfl (fun h00 => ?_) (fun h00 => ?_)
  · simp only [decide_eq_true_eq, decide_eq_false_iff_not, Bool.not_eq_true', Bool.not_eq_false'] at h00
    refine l_not rfl rfl rfl ?_
    refine l_not rfl rfl rfl ?_
    refine l_not rfl rfl rfl ?_
    refine l_not rfl rfl rfl ?_
    refine l_q rfl (q_pick_t rfl rfl rfl) rfl rfl ?_
    refine l_nil ?_
    refine k_then ?_
    refine c_true rfl ?_
    refine c_seq ?_
    refine c_region _ rfl ?_
    refine l_e rfl ?_
    refine e_call_00 (awake_spec) rfl rfl rfl Try.call20 rfl (fun _ _ => trivial) ?_
    intro _ _
    refine l_q rfl (q_assign rfl rfl) rfl rfl ?_
    refine l_nil ?_
    refine k_then ?_
    refine c_ret ?_
    refine k_then_ret ?_
    refine r_one rfl rfl ?_
    exact fun _ h => ⟨(), rfl, trivial, h.nothing⟩
  · simp only [decide_eq_true_eq, decide_eq_false_iff_not, Bool.not_eq_true', Bool.not_eq_false'] at h00
    refine l_q rfl (q_move rfl rfl) rfl rfl ?_
    refine l_q rfl (q_move rfl rfl) rfl rfl ?_
    refine l_e rfl ?_
    refine e_call_00 (rchk_spec e.2 (b.vs m) (b.ops m) hn hol hO) rfl rfl rfl Try.call14 rfl (fun _ h => ⟨h.rd 0 rfl, (rr_ops (h.rd 1 rfl) (h.rd 2 rfl) (h.rd 3 rfl) (h.rd 4 rfl) (h.rd 5 rfl))⟩) ?_
    intro _ _
    refine l_q rfl (q_not rfl rfl) rfl rfl ?_
    refine l_q rfl (q_pick_f rfl rfl rfl) rfl rfl ?_
    refine l_nil ?_
    refine k_then ?_
    refine Pre.caseB 33 rfl (fun h0 => ?_) (fun h0 => ?_)
    · simp only [Bool.not_eq_true', Bool.not_eq_false'] at h0
      refine c_true rfl ?_
      refine c_seq ?_
      refine c_region _ rfl ?_
      refine l_e rfl ?_
      refine e_call_00 (awake_spec) rfl rfl rfl Try.call20 rfl (fun _ _ => trivial) ?_
      intro _ _
      refine l_q rfl (q_assign rfl rfl) rfl rfl ?_
      refine l_nil ?_
      refine k_then ?_
      refine c_ret ?_
      refine k_then_ret ?_
      refine r_one rfl rfl ?_
      exact fun _ h => ⟨(), rfl, trivial, h.nothing⟩
    · simp only [Bool.not_eq_true', Bool.not_eq_false'] at h0
      refine c_false rfl ?_
      refine c_skip ?_
      refine k_then ?_
      refine c_seq ?_
      refine c_region _ rfl ?_
      refine l_q rfl (q_move rfl rfl) rfl rfl ?_
      refine l_q rfl (q_move rfl rfl) rfl rfl ?_
      refine l_q rfl (q_lenV rfl Try.underlying26 rfl (fun _ h => h.rd 0 rfl)) rfl rfl ?_
      refine l_e rfl ?_
      refine e_call_00 (place_spec at1 (e.2.length : Int) (by omega) (by omega)) rfl rfl rfl Try.call9 rfl (fun _ _ => trivial) ?_
      intro _ _
      refine l_q rfl (q_assign rfl rfl) rfl rfl ?_
      refine l_nil ?_
      refine k_then ?_
      refine c_seq ?_
      refine c_region _ rfl ?_
      refine l_q rfl (q_assign rfl rfl) rfl rfl ?_
      refine l_nil ?_
      refine k_then ?_
      refine c_seq ?_
      refine c_region _ rfl ?_
      refine l_q rfl (q_assign rfl rfl) rfl rfl ?_
      refine l_nil ?_
      refine k_then ?_
      refine c_seq ?_
      refine c_seq ?_
      refine c_region _ rfl ?_
      refine l_q rfl (q_assign rfl rfl) rfl rfl ?_
      refine l_nil ?_
      refine k_then ?_
      refine c_block ?_
      obtain ⟨k, hk, hkl⟩ : ∃ k : Nat, at1 % (e.2.length : Int) = (k : Int) ∧ k < e.2.length := ⟨(at1 % (e.2.length : Int)).toNat, by have := Int.emod_nonneg at1 (show (e.2.length : Int) ≠ 0 by omega); omega, by have := Int.emod_lt_of_pos at1 (show 0 < (e.2.length : Int) by omega); have := Int.emod_nonneg at1 (show (e.2.length : Int) ≠ 0 by omega); omega⟩
      refine Pre.setV (t := 13) (c := .int .i64 (k : Int)) rfl (by rw [hk]) ?_
      obtain ⟨y, hy⟩ : ∃ y, e.2[k]? = some y := ⟨_, List.getElem?_eq_getElem hkl⟩
      refine row0 52 Ev.enc none ?_
      refine c_loop2 (fun (i : Nat) (v : Value) => [(4, .int .i64 wh), (11, b.vo), (12, e.1), (13, .int .i64 (k : Int)), (14, v), (15, .bool (lstB e.2 k y.client i)), (16, .int .i64 (i : Int))]) (fun (i : Nat) (v : Value) => St w [] [rowE v 52 Ev.enc (outL e.2 k (decide (wh.tmod 2 = 0)) i), rowE e.1 52 Ev.enc e.2, rowE b.vo 38 encSv (b.vs m), rowE b.q0.v 37 Op.enc b.o0, rowE b.q1.v 37 Op.enc b.o1, rowE b.q2.v 37 Op.enc b.o2, rowE b.q3.v 37 Op.enc b.o3]) (fun (i : Nat) (v : Value) => i ≤ e.2.length) (fun (i : Nat) (v : Value) => e.2.length - i) (0) (.slice none 0 0) (Nat.zero_le _) (Sub.cons rfl (Sub.cons rfl (Sub.cons rfl (Sub.cons rfl (Sub.cons rfl (Sub.consE rfl (by simp [lstB]) (Sub.cons rfl Sub.nil))))))) (fun _ h => by simpa [outL] using h) ?_
      intro i v hi
      refine c_seq ?_
      refine c_seq ?_
      have hol2 := out_len e.2 k (decide (wh.tmod 2 = 0)) i
      refine c_region _ rfl ?_
      refine l_q rfl (q_move rfl rfl) rfl rfl ?_
      refine l_q rfl (q_move rfl rfl) rfl rfl ?_
      refine l_q rfl (q_lenV rfl Try.underlying26 rfl (fun _ h => h.rd 1 rfl)) rfl rfl ?_
      refine l_q rfl (q_lss rfl rfl rfl) rfl rfl ?_
      refine l_nil ?_
      refine k_then ?_
      refine Pre.caseB 42 rfl (fun h1 => ?_) (fun h1 => ?_)
      · simp only [decide_eq_true_eq, decide_eq_false_iff_not, Bool.not_eq_true', Bool.not_eq_false'] at h1
        obtain ⟨x, hx⟩ : ∃ x, e.2[i]? = some x := ⟨_, List.getElem?_eq_getElem (by omega)⟩
        refine c_true rfl ?_
        refine c_skip ?_
        refine k_then ?_
        refine c_seq ?_
        refine c_block ?_
        refine c_seq ?_
        refine c_meet1 (fun (u : Unit) => [(4, .int .i64 wh), (11, b.vo), (12, e.1), (13, .int .i64 (k : Int)), (14, v), (15, .bool (lstB e.2 k y.client (i + 1))), (16, .int .i64 (i : Int))]) (fun (u : Unit) => St w [] [rowE v 52 Ev.enc (outL e.2 k (decide (wh.tmod 2 = 0)) i), rowE e.1 52 Ev.enc e.2, rowE b.vo 38 encSv (b.vs m), rowE b.q0.v 37 Op.enc b.o0, rowE b.q1.v 37 Op.enc b.o1, rowE b.q2.v 37 Op.enc b.o2, rowE b.q3.v 37 Op.enc b.o3]) (fun (u : Unit) => True) ?_ ?_
        · refine c_draw [(0, some true), (1, some true), (2, some true), (3, some true), (4, some true), (5, some true), (6, some true), (7, some true), (8, some true), (9, some true), (10, some true), (11, some true), (12, some true), (13, some true), (14, some true), (15, some true), (16, some true), (17, some true), (18, some true), (19, some true)] [] [(_, some true), (_, some true), (_, some true), (_, some true), (_, some true), (_, some true), (_, some true), (_, some true), (_, some true), (_, some true), (_, some true), (_, some true), (_, some true), (_, some true), (_, some true), (_, some true), (_, some true), (_, some true), (_, some true), (_, some true)] (fun w2 => RdV w2 e.1 Ev.enc e.2) (blind_then (blind_block (blind_then (blind_then (blind_block (blind_then blind_body)))))) rfl (by kernel_rfl) (by kernel_rfl) rfl rfl rfl (by kernel_rfl) St.drawn (fun _ h => h.rd 1 rfl) ?_
          refine d_q rfl (q_move rfl rfl) rfl rfl ?_
          refine d_q rfl (q_move rfl rfl) rfl rfl ?_
          refine Pre.caseB 46 rfl (fun hl => ?_) (fun hl => ?_)
          · refine d_q rfl (q_move rfl rfl) rfl rfl ?_
            refine d_q rfl (q_move rfl rfl) rfl rfl ?_
            refine d_q rfl (q_leq rfl rfl rfl) rfl rfl ?_
            refine d_q rfl (q_move rfl rfl) rfl rfl ?_
            refine Pre.caseB 50 rfl (fun hik => ?_) (fun hik => ?_)
            · simp only [decide_eq_true_eq, decide_eq_false_iff_not, Bool.not_eq_true', Bool.not_eq_false'] at hik
              refine d_not rfl rfl rfl ?_
              refine d_not rfl rfl rfl ?_
              refine d_not rfl rfl rfl ?_
              refine d_not rfl rfl rfl ?_
              refine d_not rfl rfl rfl ?_
              refine d_not rfl rfl rfl ?_
              refine d_not rfl rfl rfl ?_
              refine d_not rfl rfl rfl ?_
              refine d_not rfl rfl rfl ?_
              refine d_not rfl rfl rfl ?_
              refine d_not rfl rfl rfl ?_
              refine d_q rfl (q_pick_t rfl rfl rfl) rfl rfl ?_
              refine d_q rfl (q_pick_t rfl rfl rfl) rfl rfl ?_
              refine d_q rfl (q_assign rfl rfl) rfl rfl ?_
              refine d_nil ?_
              exact k_meet (()) trivial (Sub.cons rfl (Sub.cons rfl (Sub.cons rfl (Sub.cons rfl (Sub.cons rfl (Sub.consE rfl (by rw [lst_le _ (by omega)]) (Sub.cons rfl Sub.nil))))))) (fun _ h => h)
            · simp only [decide_eq_true_eq, decide_eq_false_iff_not, Bool.not_eq_true', Bool.not_eq_false'] at hik
              refine d_q rfl (q_move rfl rfl) rfl rfl ?_
              refine d_q rfl (q_move rfl rfl) rfl rfl ?_
              refine d_q rfl (q_indexV i rfl Try.underlying26 Try.sizeOf52 rfl (fun _ h => h) rfl rfl (by omega)) rfl rfl ?_
              refine d_q rfl (q_fieldAddr rfl Try.underlying52 rfl Try.sizeOf3 rfl rfl) rfl rfl ?_
              refine d_q rfl (q_loadV i 0 rfl Try.isAgg3 rfl rfl (fun _ h => h) hx rfl) rfl rfl ?_
              refine d_q rfl (q_move rfl rfl) rfl rfl ?_
              refine d_q rfl (q_move rfl rfl) rfl rfl ?_
              refine d_q rfl (q_indexV k rfl Try.underlying26 Try.sizeOf52 rfl (fun _ h => h) rfl rfl (by omega)) rfl rfl ?_
              refine d_q rfl (q_fieldAddr rfl Try.underlying52 rfl Try.sizeOf3 rfl rfl) rfl rfl ?_
              refine d_q rfl (q_loadV k 0 rfl Try.isAgg3 rfl rfl (fun _ h => h) hy rfl) rfl rfl ?_
              refine d_q rfl (q_neq rfl rfl rfl) rfl rfl ?_
              refine d_q rfl (q_pick_f rfl rfl rfl) rfl rfl ?_
              refine d_q rfl (q_pick_t rfl rfl rfl) rfl rfl ?_
              refine d_q rfl (q_assign rfl rfl) rfl rfl ?_
              refine d_nil ?_
              exact k_meet (()) trivial (Sub.cons rfl (Sub.cons rfl (Sub.cons rfl (Sub.cons rfl (Sub.cons rfl (Sub.consE rfl (by rw [lst_gt _ hx (by omega), hl]; simp) (Sub.cons rfl Sub.nil))))))) (fun _ h => h)
          · refine d_not rfl rfl rfl ?_
            refine d_not rfl rfl rfl ?_
            refine d_not rfl rfl rfl ?_
            refine d_not rfl rfl rfl ?_
            refine d_not rfl rfl rfl ?_
            refine d_not rfl rfl rfl ?_
            refine d_not rfl rfl rfl ?_
            refine d_not rfl rfl rfl ?_
            refine d_not rfl rfl rfl ?_
            refine d_not rfl rfl rfl ?_
            refine d_not rfl rfl rfl ?_
            refine d_not rfl rfl rfl ?_
            refine d_not rfl rfl rfl ?_
            refine d_not rfl rfl rfl ?_
            refine d_not rfl rfl rfl ?_
            refine d_not rfl rfl rfl ?_
            refine d_q rfl (q_pick_f rfl rfl rfl) rfl rfl ?_
            refine d_q rfl (q_assign rfl rfl) rfl rfl ?_
            refine d_nil ?_
            exact k_meet (()) trivial (Sub.cons rfl (Sub.cons rfl (Sub.cons rfl (Sub.cons rfl (Sub.cons rfl (Sub.consE rfl (by
                        by_cases g : i ≤ k
                        · unfold lstB at hl; rw [List.drop_eq_nil_of_le (by rw [List.length_take]; omega)] at hl; cases hl
                        · rw [lst_gt _ hx (by omega), hl]; rfl) (Sub.cons rfl Sub.nil))))))) (fun _ h => h)
        · intro u _
          refine c_seq ?_
          refine c_seq ?_
          refine c_region _ rfl ?_
          refine l_q rfl (q_move rfl rfl) rfl rfl ?_
          refine l_q rfl (q_move rfl rfl) rfl rfl ?_
          refine l_q rfl (q_eql rfl rfl rfl) rfl rfl ?_
          refine l_q rfl (q_move rfl rfl) rfl rfl ?_
          refine Pre.caseB 67 rfl (fun hik => ?_) (fun hik => ?_)
          · simp only [decide_eq_true_eq, decide_eq_false_iff_not, Bool.not_eq_true', Bool.not_eq_false'] at hik
            have hik2 : i = k := by omega
            refine l_q rfl (q_move rfl rfl) rfl rfl ?_
            refine l_q rfl (q_rem rfl rfl rfl (by decide)) rfl rfl ?_
            refine l_q rfl (q_eql rfl rfl rfl) rfl rfl ?_
            refine l_q rfl (q_pick_t rfl rfl rfl) rfl rfl ?_
            refine l_nil ?_
            refine k_then ?_
            refine Pre.caseB 71 rfl (fun hev => ?_) (fun hev => ?_)
            · simp only [decide_eq_true_eq, decide_eq_false_iff_not, Bool.not_eq_true', Bool.not_eq_false'] at hev
              refine c_true rfl ?_
              refine c_exit ?_
              refine k_then_exit ?_
              refine k_block_exit ?_
              refine k_then ?_
              refine c_region _ rfl ?_
              refine l_q rfl (q_move rfl rfl) rfl rfl ?_
              refine l_q rfl (q_inc rfl rfl rfl (by omega)) rfl rfl ?_
              refine l_q rfl (q_assign rfl rfl) rfl rfl ?_
              refine l_nil ?_
              refine pull6 ?_
              refine pull6 ?_
              refine pull6 ?_
              refine pull6 ?_
              refine pull6 ?_
              refine pull6 ?_
              refine pull6 ?_
              exact k_round ((i + 1, v)) (by dsimp only; omega) (by dsimp only; omega) (Sub.cons rfl (Sub.cons rfl (Sub.cons rfl (Sub.cons rfl (Sub.cons rfl (Sub.cons rfl (Sub.cons rfl (Sub.nil)))))))) (fun _ h => by dsimp only; rw [decide_eq_true hev] at h ⊢; rw [out_at_t hik2]; exact h)
            · simp only [decide_eq_true_eq, decide_eq_false_iff_not, Bool.not_eq_true', Bool.not_eq_false'] at hev
              have hof := out_at_f (k := k) hx hik2
              rw [← decide_eq_false hev] at hof
              refine c_false rfl ?_
              refine c_skip ?_
              refine k_then ?_
              refine c_seq ?_
              refine c_region _ rfl ?_
              refine l_q rfl (q_move rfl rfl) rfl rfl ?_
              refine l_q rfl (q_move rfl rfl) rfl rfl ?_
              refine l_q rfl (q_move rfl rfl) rfl rfl ?_
              refine l_q rfl (q_indexV i rfl Try.underlying26 Try.sizeOf52 rfl (fun _ h => h.rd 1 rfl) rfl rfl (by omega)) rfl rfl ?_
              refine l_q rfl (q_loadVAgg i rfl Try.isAgg52 Try.sizeOf52 rfl rfl (fun _ h => h.rd 1 rfl) hx) rfl rfl ?_
              refine l_e rfl ?_
              refine e_buildSliceV (sz := 22) [.tmp 76] rfl rfl rfl rfl rfl Try.underlying26 Try.sizeOf52 rfl Try.zeroValue52 (by simp only [Value.cells, Ev.enc]; simp [Ev.c_len]) ?_
              intro b2
              refine pull1 ?_
              refine l_e rfl ?_
              refine e_append rfl rfl rfl Try.underlying26 Try.underlying26 info52 rfl rfl rfl rfl rfl (fun _ h => lit_rd (h.at 1 rfl) Ev.enc [x] rfl rfl) (by simp only [byt52, List.length_append, List.length_cons, List.length_nil]; omega) (by simp only [List.length_append, List.length_cons, List.length_nil]; omega) ?_
              intro v1
              refine pull1 ?_
              refine drop0 ?_
              refine l_q rfl (q_assign rfl rfl) rfl rfl ?_
              refine l_nil ?_
              refine k_then ?_
              refine c_seq ?_
              refine c_region _ rfl ?_
              refine l_q rfl (q_move rfl rfl) rfl rfl ?_
              refine l_q rfl (q_move rfl rfl) rfl rfl ?_
              refine l_q rfl (q_eql rfl rfl rfl) rfl rfl ?_
              refine l_nil ?_
              refine k_then ?_
              have hln : ((outL e.2 k (decide (wh.tmod 2 = 0)) i) ++ [x]).length = (outL e.2 k (decide (wh.tmod 2 = 0)) i).length + 1 := by simp
              refine Pre.setB (t := 81) (c := true) rfl (decide_eq_true (by omega)) ?_
              refine c_true rfl ?_
              refine c_region _ rfl ?_
              refine l_q rfl (q_move rfl rfl) rfl rfl ?_
              refine l_q rfl (q_move rfl rfl) rfl rfl ?_
              refine l_q rfl (q_move rfl rfl) rfl rfl ?_
              refine l_q rfl (q_indexV i rfl Try.underlying26 Try.sizeOf52 rfl (fun _ h => h.rd 1 rfl) rfl rfl (by omega)) rfl rfl ?_
              refine l_q rfl (q_loadVAgg i rfl Try.isAgg52 Try.sizeOf52 rfl rfl (fun _ h => h.rd 1 rfl) hx) rfl rfl ?_
              refine l_e rfl ?_
              refine e_buildSliceV (sz := 22) [.tmp 86] rfl rfl rfl rfl rfl Try.underlying26 Try.sizeOf52 rfl Try.zeroValue52 (by simp only [Value.cells, Ev.enc]; simp [Ev.c_len]) ?_
              intro b3
              refine pull1 ?_
              refine l_e rfl ?_
              refine e_append rfl rfl rfl Try.underlying26 Try.underlying26 info52 rfl rfl rfl rfl rfl (fun _ h => lit_rd (h.at 1 rfl) Ev.enc [x] rfl rfl) (by simp only [byt52, List.length_append, List.length_cons, List.length_nil]; omega) (by simp only [List.length_append, List.length_cons, List.length_nil]; omega) ?_
              intro v2
              refine pull1 ?_
              refine drop0 ?_
              refine l_q rfl (q_assign rfl rfl) rfl rfl ?_
              refine l_nil ?_
              refine k_block ?_
              refine k_then ?_
              refine c_region _ rfl ?_
              refine l_q rfl (q_move rfl rfl) rfl rfl ?_
              refine l_q rfl (q_inc rfl rfl rfl (by omega)) rfl rfl ?_
              refine l_q rfl (q_assign rfl rfl) rfl rfl ?_
              refine l_nil ?_
              refine pull6 ?_
              refine pull6 ?_
              refine pull6 ?_
              refine pull6 ?_
              refine pull6 ?_
              refine pull6 ?_
              refine pull6 ?_
              exact k_round ((i + 1, v2)) (by dsimp only; omega) (by dsimp only; omega) (Sub.cons rfl (Sub.cons rfl (Sub.cons rfl (Sub.cons rfl (Sub.cons rfl (Sub.cons rfl (Sub.cons rfl (Sub.nil)))))))) (fun _ h => by dsimp only; rw [hof]; exact h)
          · simp only [decide_eq_true_eq, decide_eq_false_iff_not, Bool.not_eq_true', Bool.not_eq_false'] at hik
            have hos : outL e.2 k (decide (wh.tmod 2 = 0)) (i + 1) = (outL e.2 k (decide (wh.tmod 2 = 0)) i) ++ [x] := by
              rcases Nat.lt_or_ge i k with g | g
              · exact out_lt _ hx g
              · exact out_gt _ hx (by omega)
            refine l_not rfl rfl rfl ?_
            refine l_not rfl rfl rfl ?_
            refine l_not rfl rfl rfl ?_
            refine l_q rfl (q_pick_f rfl rfl rfl) rfl rfl ?_
            refine l_nil ?_
            refine k_then ?_
            refine c_false rfl ?_
            refine c_skip ?_
            refine k_then ?_
            refine c_seq ?_
            refine c_region _ rfl ?_
            refine l_q rfl (q_move rfl rfl) rfl rfl ?_
            refine l_q rfl (q_move rfl rfl) rfl rfl ?_
            refine l_q rfl (q_move rfl rfl) rfl rfl ?_
            refine l_q rfl (q_indexV i rfl Try.underlying26 Try.sizeOf52 rfl (fun _ h => h.rd 1 rfl) rfl rfl (by omega)) rfl rfl ?_
            refine l_q rfl (q_loadVAgg i rfl Try.isAgg52 Try.sizeOf52 rfl rfl (fun _ h => h.rd 1 rfl) hx) rfl rfl ?_
            refine l_e rfl ?_
            refine e_buildSliceV (sz := 22) [.tmp 76] rfl rfl rfl rfl rfl Try.underlying26 Try.sizeOf52 rfl Try.zeroValue52 (by simp only [Value.cells, Ev.enc]; simp [Ev.c_len]) ?_
            intro b4
            refine pull1 ?_
            refine l_e rfl ?_
            refine e_append rfl rfl rfl Try.underlying26 Try.underlying26 info52 rfl rfl rfl rfl rfl (fun _ h => lit_rd (h.at 1 rfl) Ev.enc [x] rfl rfl) (by simp only [byt52, List.length_append, List.length_cons, List.length_nil]; omega) (by simp only [List.length_append, List.length_cons, List.length_nil]; omega) ?_
            intro v1
            refine pull1 ?_
            refine drop0 ?_
            refine l_q rfl (q_assign rfl rfl) rfl rfl ?_
            refine l_nil ?_
            refine k_then ?_
            refine c_seq ?_
            refine c_region _ rfl ?_
            refine l_q rfl (q_move rfl rfl) rfl rfl ?_
            refine l_q rfl (q_move rfl rfl) rfl rfl ?_
            refine l_q rfl (q_eql rfl rfl rfl) rfl rfl ?_
            refine l_nil ?_
            refine k_then ?_
            refine Pre.setB (t := 81) (c := false) rfl (decide_eq_false (by omega)) ?_
            refine c_false rfl ?_
            refine c_skip ?_
            refine k_block ?_
            refine k_then ?_
            refine c_region _ rfl ?_
            refine l_q rfl (q_move rfl rfl) rfl rfl ?_
            refine l_q rfl (q_inc rfl rfl rfl (by omega)) rfl rfl ?_
            refine l_q rfl (q_assign rfl rfl) rfl rfl ?_
            refine l_nil ?_
            refine pull6 ?_
            refine pull6 ?_
            refine pull6 ?_
            refine pull6 ?_
            refine pull6 ?_
            refine pull6 ?_
            refine pull6 ?_
            exact k_round ((i + 1, v1)) (by dsimp only; omega) (by dsimp only; omega) (Sub.cons rfl (Sub.cons rfl (Sub.cons rfl (Sub.cons rfl (Sub.cons rfl (Sub.cons rfl (Sub.cons rfl (Sub.nil)))))))) (fun _ h => by dsimp only; rw [hos]; exact h)
      · simp only [decide_eq_true_eq, decide_eq_false_iff_not, Bool.not_eq_true', Bool.not_eq_false'] at h1
        have hie : i = e.2.length := by omega
        subst hie
        refine c_false rfl ?_
        refine c_exit ?_
        refine k_then_exit ?_
        refine k_then_exit ?_
        refine k_block_exit ?_
        refine k_then ?_
        refine c_seq ?_
        refine c_seq ?_
        refine c_region _ rfl ?_
        refine l_q rfl (q_move rfl rfl) rfl rfl ?_
        refine l_q rfl (q_rem rfl rfl rfl (by decide)) rfl rfl ?_
        refine l_q rfl (q_eql rfl rfl rfl) rfl rfl ?_
        refine l_nil ?_
        refine k_then ?_
        refine Pre.caseB 91 rfl (fun hev => ?_) (fun hev => ?_)
        · simp only [decide_eq_true_eq, decide_eq_false_iff_not, Bool.not_eq_true', Bool.not_eq_false'] at hev
          have hout : (outL e.2 k (decide (wh.tmod 2 = 0)) e.2.length).length ≤ 65536 := by omega
          have hck := lacks h0 hy
          rw [← lst_end, ← out_end_t hkl, ← decide_eq_true hev] at hck
          refine c_true rfl ?_
          refine c_seq ?_
          refine c_region _ rfl ?_
          refine l_q rfl (q_move rfl rfl) rfl rfl ?_
          refine l_q rfl (q_move rfl rfl) rfl rfl ?_
          refine l_e rfl ?_
          refine e_call_00 (chk_spec (outL e.2 k (decide (wh.tmod 2 = 0)) e.2.length) (b.vs m) (b.ops m) hout hol hO) rfl rfl rfl Try.call13 rfl (fun _ h => ⟨h.rd 0 rfl, (rr_ops (h.rd 2 rfl) (h.rd 3 rfl) (h.rd 4 rfl) (h.rd 5 rfl) (h.rd 6 rfl))⟩) ?_
          intro _ _
          refine l_q rfl (q_move rfl rfl) rfl rfl ?_
          refine l_q rfl (q_eqb rfl Try.underlying4 rfl rfl) rfl rfl ?_
          refine l_q rfl (q_move rfl rfl) rfl rfl ?_
          refine Pre.setB (t := 97) (c := true) rfl (by rw [hck]; exact beq_self_eq_true _) ?_
          refine l_e rfl ?_
          refine e_call_00 (awake_spec) rfl rfl rfl Try.call20 rfl (fun _ _ => trivial) ?_
          intro _ _
          refine l_q rfl (q_pick_t rfl rfl rfl) rfl rfl ?_
          refine l_q rfl (q_assign rfl rfl) rfl rfl ?_
          refine l_nil ?_
          refine k_then ?_
          refine c_ret ?_
          refine k_then_ret ?_
          refine r_one rfl rfl ?_
          exact fun _ h => ⟨(), rfl, trivial, h.nothing⟩
        · simp only [decide_eq_true_eq, decide_eq_false_iff_not, Bool.not_eq_true', Bool.not_eq_false'] at hev
          have hout : (outL e.2 k (decide (wh.tmod 2 = 0)) e.2.length).length ≤ 65536 := by omega
          have hck : (chk (b.ops m) (outL e.2 k (decide (wh.tmod 2 = 0)) e.2.length)).isSome = false := by rw [decide_eq_false hev, out_end_f hkl]; exact twice h0 hy
          refine c_false rfl ?_
          refine c_skip ?_
          refine k_then ?_
          refine c_seq ?_
          refine c_region _ rfl ?_
          refine l_q rfl (q_move rfl rfl) rfl rfl ?_
          refine l_q rfl (q_move rfl rfl) rfl rfl ?_
          refine l_e rfl ?_
          refine e_call_00 (chk_spec (outL e.2 k (decide (wh.tmod 2 = 0)) e.2.length) (b.vs m) (b.ops m) hout hol hO) rfl rfl rfl Try.call13 rfl (fun _ h => ⟨h.rd 0 rfl, (rr_ops (h.rd 2 rfl) (h.rd 3 rfl) (h.rd 4 rfl) (h.rd 5 rfl) (h.rd 6 rfl))⟩) ?_
          intro _ _
          refine l_q rfl (q_not rfl rfl) rfl rfl ?_
          refine l_q rfl (q_move rfl rfl) rfl rfl ?_
          refine Pre.setB (t := 104) (c := true) rfl (by rw [hck]; rfl) ?_
          refine l_e rfl ?_
          refine e_call_00 (awake_spec) rfl rfl rfl Try.call20 rfl (fun _ _ => trivial) ?_
          intro _ _
          refine l_q rfl (q_pick_t rfl rfl rfl) rfl rfl ?_
          refine l_q rfl (q_assign rfl rfl) rfl rfl ?_
          refine l_nil ?_
          refine k_then ?_
          refine c_ret ?_
          refine r_one rfl rfl ?_
          exact fun _ h => ⟨(), rfl, trivial, h.nothing⟩
theorem histTurned_walk (w : World) (a0 : Int) (w0 : (Lit.int .i64 a0).wf = true) (A1 : Option Addr) (c1 : Nat) (z1 : List Int) (rd1 : Rd w w.heap.size A1 (z1.map (.int .i64))) (l1 : z1.length ≤ c1) (m1 : c1 ≤ maxLen) (w1 : ∀ z ∈ z1, (Lit.int .i64 z).wf = true) (A2 : Option Addr) (c2 : Nat) (z2 : List Int) (rd2 : Rd w w.heap.size A2 (z2.map (.int .i64))) (l2 : z2.length ≤ c2) (m2 : c2 ≤ maxLen) (w2 : ∀ z ∈ z2, (Lit.int .i64 z).wf = true) (a3 : Int) (w3 : (Lit.int .i64 a3).wf = true) (a4 : Int) (w4 : (Lit.int .i64 a4).wf = true) :
    Calls Try.prog 7 #[.int .i64 a0, .slice A1 z1.length c1, .slice A2 z2.length c2, .int .i64 a3, .int .i64 a4] w fun e w' => e = .returned (.bool true) ∧ Below w.heap.size w w' := by
  have f1 := flat_one' (encI .i64) (Value.int .i64) (fun _ => rfl) z1
  have f2 := flat_one' (encI .i64) (Value.int .i64) (fun _ => rfl) z2
  rw [← f1] at rd1
  rw [← f2] at rd2
  exact con_walk (turned_spec a0 z1 z2 a3 a4) ⟨rdv_of rd1 l1, rdv_of rd2 l2⟩
end Go.Proofs.Ythfdmeikpbkpaaa
