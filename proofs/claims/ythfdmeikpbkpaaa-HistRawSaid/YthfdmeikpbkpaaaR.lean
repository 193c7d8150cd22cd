/- operations of clients -/
import Derived.Test.YthfdmeikpbkpaaaP
set_option linter.unusedVariables false
set_option linter.unusedSimpArgs false
namespace Go.Proofs.Ythfdmeikpbkpaaa
open Go.Sep Go.RowKit

structure OpsR where
  vo : Value
  q0 : Sv
  q1 : Sv
  q2 : Sv
  q3 : Sv
  o0 : List Op
  o1 : List Op
  o2 : List Op
  o3 : List Op
def OpsR.vs (b : OpsR) (n : Nat) : List Sv := [b.q0, b.q1, b.q2, b.q3].take n
def OpsR.ops (b : OpsR) (n : Nat) : List (List Op) := [b.o0, b.o1, b.o2, b.o3].take n
def sv0 : Sv := ⟨none, 0, 0⟩
theorem four_cases {i n : Nat} {Q : Prop} (h1 : 1 ≤ n) (h4 : n ≤ 4) (a : (i : Int) % (n : Int) = ((0 : Nat) : Int) ∧ 0 < n → Q) (b : (i : Int) % (n : Int) = ((1 : Nat) : Int) ∧ 1 < n → Q) (c : (i : Int) % (n : Int) = ((2 : Nat) : Int) ∧ 2 < n → Q) (d : (i : Int) % (n : Int) = ((3 : Nat) : Int) ∧ 3 < n → Q) : Q := by
  have h : (i : Int) % (n : Int) = ((i % n : Nat) : Int) := by rw [Int.natCast_emod]
  have hlt : i % n < n := Nat.mod_lt _ (by omega)
  rw [h] at a b c d
  generalize i % n = j at a b c d hlt
  match j with
  | 0 => exact a ⟨rfl, hlt⟩
  | 1 => exact b ⟨rfl, hlt⟩
  | 2 => exact c ⟨rfl, hlt⟩
  | 3 => exact d ⟨rfl, hlt⟩
  | j + 4 => omega
set_option maxRecDepth 100000 in
set_option maxHeartbeats 1000000 in
theorem ops_ex {va : Value} (l : List Int) (n : Nat) (h1n : 1 ≤ n) (h4 : n ≤ 4) : Con Try.prog 8 [va, .int .i64 (n : Int)] (fun w => RdV w va (encI .i64) l) [] (fun b : OpsR => b.vo) (fun b => b.o0.length ≤ 96 ∧ b.o1.length ≤ 96 ∧ b.o2.length ≤ 96 ∧ b.o3.length ≤ 96) (fun b => [rowE b.vo 38 encSv (b.vs n), rowE b.q0.v 37 Op.enc b.o0, rowE b.q1.v 37 Op.enc b.o1, rowE b.q2.v 37 Op.enc b.o2, rowE b.q3.v 37 Op.enc b.o3]) := by
  intro w hl hH
  refine enter (n := 40) (vs := [va, .int .i64 (n : Int)]) (St w [] []) Try.func8 rfl rfl rfl (St.init hH) ?_
  refine c_seq ?_
  refine c_region _ rfl ?_
  refine l_q rfl (q_assign rfl rfl) rfl rfl ?_
  refine l_nil ?_
  refine k_then ?_
  refine c_seq ?_
  refine c_region _ rfl ?_
  refine l_q rfl (q_move rfl rfl) rfl rfl ?_
  refine l_e rfl ?_
  refine e_makeSlice encSv sv0 n rfl rfl rfl Try.underlying23 info38 rfl rfl rfl rfl rfl rfl rfl (by simp only [byt38]; omega) (by omega) ?_
  intro vo
  refine l_q rfl (q_assign rfl rfl) rfl rfl ?_
  refine l_nil ?_
  refine k_then ?_
  refine c_seq ?_
  refine c_seq ?_
  refine c_region _ rfl ?_
  refine l_q rfl (q_assign rfl rfl) rfl rfl ?_
  refine l_nil ?_
  refine k_then ?_
  refine c_block ?_
  refine row0 37 Op.enc none ?_
  refine row0 37 Op.enc none ?_
  refine row0 37 Op.enc none ?_
  refine row0 37 Op.enc none ?_
  refine pull3 ?_
  refine pull3 ?_
  refine pull3 ?_
  refine pull3 ?_
  refine pull4 ?_
  have hvl : ∀ q0 q1 q2 q3 : Sv, ([q0, q1, q2, q3].take n).length = n := fun q0 q1 q2 q3 => by rw [List.length_take]; exact Nat.min_eq_left h4
  have hrep : List.replicate n sv0 = [sv0, sv0, sv0, sv0].take n := by
    have e : [sv0, sv0, sv0, sv0] = List.replicate 4 sv0 := rfl
    rw [e, List.take_replicate, Nat.min_eq_left h4]
  refine c_loop9 (fun (i : Nat) (q0 : Sv) (q1 : Sv) (q2 : Sv) (q3 : Sv) (o0 : List Op) (o1 : List Op) (o2 : List Op) (o3 : List Op) => [(0, va), (1, .int .i64 (n : Int)), (5, vo), (6, .int .i64 (i : Int))]) (fun (i : Nat) (q0 : Sv) (q1 : Sv) (q2 : Sv) (q3 : Sv) (o0 : List Op) (o1 : List Op) (o2 : List Op) (o3 : List Op) => St w [] [rowE vo 38 encSv ([q0, q1, q2, q3].take n), rowE q0.v 37 Op.enc o0, rowE q1.v 37 Op.enc o1, rowE q2.v 37 Op.enc o2, rowE q3.v 37 Op.enc o3]) (fun (i : Nat) (q0 : Sv) (q1 : Sv) (q2 : Sv) (q3 : Sv) (o0 : List Op) (o1 : List Op) (o2 : List Op) (o3 : List Op) => i ≤ l.length ∧ i ≤ 96 ∧ o0.length ≤ i ∧ o1.length ≤ i ∧ o2.length ≤ i ∧ o3.length ≤ i) (fun (i : Nat) (q0 : Sv) (q1 : Sv) (q2 : Sv) (q3 : Sv) (o0 : List Op) (o1 : List Op) (o2 : List Op) (o3 : List Op) => l.length - i) (0) (sv0) (sv0) (sv0) (sv0) ([]) ([]) ([]) ([]) ⟨Nat.zero_le _, Nat.zero_le _, Nat.le_refl _, Nat.le_refl _, Nat.le_refl _, Nat.le_refl _⟩ (Sub.cons rfl (Sub.cons rfl (Sub.cons rfl (Sub.cons rfl (Sub.nil))))) (fun _ h => by rw [← hrep]; exact h) ?_
  intro i q0 q1 q2 q3 o0 o1 o2 o3 hp
  refine c_seq ?_
  refine c_seq ?_
  obtain ⟨hi, hi96, g0, g1, g2, g3⟩ := hp
  have hvn := hvl q0 q1 q2 q3
  refine c_region _ rfl ?_
  refine l_q rfl (q_move rfl rfl) rfl rfl ?_
  refine l_q rfl (q_move rfl rfl) rfl rfl ?_
  refine l_q rfl (q_lenV rfl Try.underlying22 rfl (fun _ h => hl.keep h (by simp [dom]))) rfl rfl ?_
  refine l_q rfl (q_lss rfl rfl rfl) rfl rfl ?_
  refine l_q rfl (q_move rfl rfl) rfl rfl ?_
  refine Pre.caseB 13 rfl (fun h1 => ?_) (fun h1 => ?_)
  · try simp only [decide_eq_true_eq, decide_eq_false_iff_not, Bool.not_eq_true', Bool.not_eq_false'] at h1
    refine l_q rfl (q_move rfl rfl) rfl rfl ?_
    refine l_q rfl (q_move rfl rfl) rfl rfl ?_
    refine l_q rfl (q_mul64 rfl rfl rfl (by omega)) rfl rfl ?_
    refine l_q rfl (q_lss rfl rfl rfl) rfl rfl ?_
    refine l_q rfl (q_pick_t rfl rfl rfl) rfl rfl ?_
    refine l_nil ?_
    refine k_then ?_
    refine Pre.caseB 18 rfl (fun h2 => ?_) (fun h2 => ?_)
    · try simp only [decide_eq_true_eq, decide_eq_false_iff_not, Bool.not_eq_true', Bool.not_eq_false'] at h2
      obtain ⟨x, hx⟩ : ∃ x, l[i]? = some x := ⟨_, List.getElem?_eq_getElem (by omega)⟩
      refine c_true rfl ?_
      refine c_skip ?_
      refine k_then ?_
      refine c_seq ?_
      refine c_block ?_
      refine four_cases (i := i) h1n h4 (fun hj => ?_) (fun hj => ?_) (fun hj => ?_) (fun hj => ?_)
      · obtain ⟨hjm, hjn⟩ := hj
        have hq : ([q0, q1, q2, q3].take n)[0]? = some q0 := by rw [List.getElem?_take_of_lt hjn]; rfl
        refine c_draw [(0, some true), (1, some true), (2, some true), (3, some true), (4, some true), (5, some true), (6, some true), (7, some true), (8, some true), (9, some true), (10, some true), (11, some true), (12, some true), (13, some true), (14, some false), (15, some false), (16, some false), (17, some true), (18, none)] [18] [(_, some true), (_, some true), (_, some true), (_, some true), (_, some true), (_, some true), (_, some true), (_, some true), (_, some true), (_, some true), (_, some true), (_, some true), (_, some true), (_, some true), (_, some false), (_, some false), (_, some false), (_, some true), (_, none)] (fun w2 => RdV w2 vo encSv ([q0, q1, q2, q3].take n) ∧ RdV w2 va (encI .i64) l) (blind_block (blind_then (blind_then (blind_block (blind_then blind_body))))) rfl (by kernel_rfl) (by kernel_rfl) rfl rfl rfl (by kernel_rfl) St.drawn (fun _ h => ⟨h.rd 0 rfl, hl.keep h (by simp [dom])⟩) ?_
        refine d_q rfl (q_move rfl rfl) rfl rfl ?_
        refine d_q rfl (q_move rfl rfl) rfl rfl ?_
        refine d_q rfl (q_move rfl rfl) rfl rfl ?_
        refine d_q rfl (q_rem_nn rfl rfl rfl (by omega) (by omega)) rfl rfl ?_
        refine d_q rfl (q_move rfl rfl) rfl rfl ?_
        refine d_q rfl (q_move rfl rfl) rfl rfl ?_
        refine d_q rfl (q_move rfl rfl) rfl rfl ?_
        refine d_q rfl (q_rem_nn rfl rfl rfl (by omega) (by omega)) rfl rfl ?_
        refine d_q rfl (q_indexV 0 rfl Try.underlying23 Try.sizeOf38 rfl (fun _ h => h.1) rfl hjm (by omega)) rfl rfl ?_
        refine d_q rfl (q_loadV 0 0 rfl Try.isAgg38 rfl rfl (fun _ h => h.1) hq rfl) rfl rfl ?_
        refine d_q rfl (q_move rfl rfl) rfl rfl ?_
        refine d_q rfl (q_move rfl rfl) rfl rfl ?_
        refine d_q rfl (q_indexV i rfl Try.underlying22 Try.sizeOf3 rfl (fun _ h => h.2) rfl rfl (by omega)) rfl rfl ?_
        refine d_q rfl (q_loadV i 0 rfl Try.isAgg3 rfl rfl (fun _ h => h.2) hx rfl) rfl rfl ?_
        refine d_e rfl ?_
        refine e_call_00 (op_ex x) rfl rfl rfl Try.call25 rfl (fun _ _ => trivial) ?_
        intro op _
        refine d_held (fun _ h => ⟨h.rd 0 rfl, hl.keep h (by simp [dom])⟩) ?_
        refine d_e rfl ?_
        refine e_buildSliceV (sz := 4) [.tmp 35] rfl rfl rfl rfl rfl Try.underlying38 Try.sizeOf37 rfl Try.zeroValue37 rfl ?_
        intro b2
        refine d_held (fun _ h => ⟨h.rd 1 rfl, hl.keep h (by simp [dom])⟩) ?_
        refine pull2 ?_
        refine d_e rfl ?_
        refine e_append rfl rfl rfl Try.underlying38 Try.underlying38 info37 rfl rfl rfl rfl rfl (fun _ h => lit_rd (h.at 1 rfl) Op.enc [op] rfl rfl) (by simp only [byt37, List.length_append, List.length_cons, List.length_nil]; omega) (by simp only [List.length_append, List.length_cons, List.length_nil]; omega) ?_
        intro v
        refine Pre.fact (fun _ h => row_sl (h.at 0 rfl)) ?_
        rintro ⟨ad, cp, rfl⟩
        refine d_held (fun _ h => ⟨h.rd 2 rfl, hl.keep h (by simp [dom])⟩) ?_
        refine d_q rfl (q_indexV 0 rfl Try.underlying23 Try.sizeOf38 rfl (fun _ h => h.1) rfl hjm (by omega)) rfl rfl ?_
        refine pull2 ?_
        refine d_t rfl ?_
        refine e_storeV 0 0 ((⟨ad, (o0 ++ [op]).length, cp⟩ : Sv)) rfl rfl Try.sizeOf38 rfl rfl rfl hq (by decide) rfl ?_
        refine d_nil ?_
        refine k_block ?_
        refine k_then ?_
        refine c_region _ rfl ?_
        refine l_q rfl (q_move rfl rfl) rfl rfl ?_
        refine l_q rfl (q_inc rfl rfl rfl (by omega)) rfl rfl ?_
        refine l_q rfl (q_assign rfl rfl) rfl rfl ?_
        refine l_nil ?_
        refine pull2 ?_
        refine drop0 ?_
        refine pull4 ?_
        refine pull4 ?_
        refine pull4 ?_
        refine pull4 ?_
        refine pull4 ?_
        exact k_round ((i + 1, ⟨ad, (o0 ++ [op]).length, cp⟩, q1, q2, q3, o0 ++ [op], o1, o2, o3)) (by dsimp only; omega) (by dsimp only; (try rw [List.length_append]); simp only [List.length_cons, List.length_nil]; omega) (Sub.cons rfl (Sub.cons rfl (Sub.cons rfl (Sub.cons rfl (Sub.nil))))) (fun _ h => by dsimp only; rw [← List.take_set] at h; exact h)
      · obtain ⟨hjm, hjn⟩ := hj
        have hq : ([q0, q1, q2, q3].take n)[1]? = some q1 := by rw [List.getElem?_take_of_lt hjn]; rfl
        refine c_draw [(0, some true), (1, some true), (2, some true), (3, some true), (4, some true), (5, some true), (6, some true), (7, some true), (8, some true), (9, some true), (10, some true), (11, some true), (12, some true), (13, some true), (14, some false), (15, some false), (16, some false), (17, some true), (18, none)] [18] [(_, some true), (_, some true), (_, some true), (_, some true), (_, some true), (_, some true), (_, some true), (_, some true), (_, some true), (_, some true), (_, some true), (_, some true), (_, some true), (_, some true), (_, some false), (_, some false), (_, some false), (_, some true), (_, none)] (fun w2 => RdV w2 vo encSv ([q0, q1, q2, q3].take n) ∧ RdV w2 va (encI .i64) l) (blind_block (blind_then (blind_then (blind_block (blind_then blind_body))))) rfl (by kernel_rfl) (by kernel_rfl) rfl rfl rfl (by kernel_rfl) St.drawn (fun _ h => ⟨h.rd 0 rfl, hl.keep h (by simp [dom])⟩) ?_
        refine d_q rfl (q_move rfl rfl) rfl rfl ?_
        refine d_q rfl (q_move rfl rfl) rfl rfl ?_
        refine d_q rfl (q_move rfl rfl) rfl rfl ?_
        refine d_q rfl (q_rem_nn rfl rfl rfl (by omega) (by omega)) rfl rfl ?_
        refine d_q rfl (q_move rfl rfl) rfl rfl ?_
        refine d_q rfl (q_move rfl rfl) rfl rfl ?_
        refine d_q rfl (q_move rfl rfl) rfl rfl ?_
        refine d_q rfl (q_rem_nn rfl rfl rfl (by omega) (by omega)) rfl rfl ?_
        refine d_q rfl (q_indexV 1 rfl Try.underlying23 Try.sizeOf38 rfl (fun _ h => h.1) rfl hjm (by omega)) rfl rfl ?_
        refine d_q rfl (q_loadV 1 0 rfl Try.isAgg38 rfl rfl (fun _ h => h.1) hq rfl) rfl rfl ?_
        refine d_q rfl (q_move rfl rfl) rfl rfl ?_
        refine d_q rfl (q_move rfl rfl) rfl rfl ?_
        refine d_q rfl (q_indexV i rfl Try.underlying22 Try.sizeOf3 rfl (fun _ h => h.2) rfl rfl (by omega)) rfl rfl ?_
        refine d_q rfl (q_loadV i 0 rfl Try.isAgg3 rfl rfl (fun _ h => h.2) hx rfl) rfl rfl ?_
        refine d_e rfl ?_
        refine e_call_00 (op_ex x) rfl rfl rfl Try.call25 rfl (fun _ _ => trivial) ?_
        intro op _
        refine d_held (fun _ h => ⟨h.rd 0 rfl, hl.keep h (by simp [dom])⟩) ?_
        refine d_e rfl ?_
        refine e_buildSliceV (sz := 4) [.tmp 35] rfl rfl rfl rfl rfl Try.underlying38 Try.sizeOf37 rfl Try.zeroValue37 rfl ?_
        intro b4
        refine d_held (fun _ h => ⟨h.rd 1 rfl, hl.keep h (by simp [dom])⟩) ?_
        refine pull3 ?_
        refine d_e rfl ?_
        refine e_append rfl rfl rfl Try.underlying38 Try.underlying38 info37 rfl rfl rfl rfl rfl (fun _ h => lit_rd (h.at 1 rfl) Op.enc [op] rfl rfl) (by simp only [byt37, List.length_append, List.length_cons, List.length_nil]; omega) (by simp only [List.length_append, List.length_cons, List.length_nil]; omega) ?_
        intro v
        refine Pre.fact (fun _ h => row_sl (h.at 0 rfl)) ?_
        rintro ⟨ad, cp, rfl⟩
        refine d_held (fun _ h => ⟨h.rd 2 rfl, hl.keep h (by simp [dom])⟩) ?_
        refine d_q rfl (q_indexV 1 rfl Try.underlying23 Try.sizeOf38 rfl (fun _ h => h.1) rfl hjm (by omega)) rfl rfl ?_
        refine pull2 ?_
        refine d_t rfl ?_
        refine e_storeV 1 0 ((⟨ad, (o1 ++ [op]).length, cp⟩ : Sv)) rfl rfl Try.sizeOf38 rfl rfl rfl hq (by decide) rfl ?_
        refine d_nil ?_
        refine k_block ?_
        refine k_then ?_
        refine c_region _ rfl ?_
        refine l_q rfl (q_move rfl rfl) rfl rfl ?_
        refine l_q rfl (q_inc rfl rfl rfl (by omega)) rfl rfl ?_
        refine l_q rfl (q_assign rfl rfl) rfl rfl ?_
        refine l_nil ?_
        refine pull2 ?_
        refine drop0 ?_
        refine pull4 ?_
        refine pull4 ?_
        refine pull3 ?_
        refine pull4 ?_
        refine pull4 ?_
        exact k_round ((i + 1, q0, ⟨ad, (o1 ++ [op]).length, cp⟩, q2, q3, o0, o1 ++ [op], o2, o3)) (by dsimp only; omega) (by dsimp only; (try rw [List.length_append]); simp only [List.length_cons, List.length_nil]; omega) (Sub.cons rfl (Sub.cons rfl (Sub.cons rfl (Sub.cons rfl (Sub.nil))))) (fun _ h => by dsimp only; rw [← List.take_set] at h; exact h)
      · obtain ⟨hjm, hjn⟩ := hj
        have hq : ([q0, q1, q2, q3].take n)[2]? = some q2 := by rw [List.getElem?_take_of_lt hjn]; rfl
        refine c_draw [(0, some true), (1, some true), (2, some true), (3, some true), (4, some true), (5, some true), (6, some true), (7, some true), (8, some true), (9, some true), (10, some true), (11, some true), (12, some true), (13, some true), (14, some false), (15, some false), (16, some false), (17, some true), (18, none)] [18] [(_, some true), (_, some true), (_, some true), (_, some true), (_, some true), (_, some true), (_, some true), (_, some true), (_, some true), (_, some true), (_, some true), (_, some true), (_, some true), (_, some true), (_, some false), (_, some false), (_, some false), (_, some true), (_, none)] (fun w2 => RdV w2 vo encSv ([q0, q1, q2, q3].take n) ∧ RdV w2 va (encI .i64) l) (blind_block (blind_then (blind_then (blind_block (blind_then blind_body))))) rfl (by kernel_rfl) (by kernel_rfl) rfl rfl rfl (by kernel_rfl) St.drawn (fun _ h => ⟨h.rd 0 rfl, hl.keep h (by simp [dom])⟩) ?_
        refine d_q rfl (q_move rfl rfl) rfl rfl ?_
        refine d_q rfl (q_move rfl rfl) rfl rfl ?_
        refine d_q rfl (q_move rfl rfl) rfl rfl ?_
        refine d_q rfl (q_rem_nn rfl rfl rfl (by omega) (by omega)) rfl rfl ?_
        refine d_q rfl (q_move rfl rfl) rfl rfl ?_
        refine d_q rfl (q_move rfl rfl) rfl rfl ?_
        refine d_q rfl (q_move rfl rfl) rfl rfl ?_
        refine d_q rfl (q_rem_nn rfl rfl rfl (by omega) (by omega)) rfl rfl ?_
        refine d_q rfl (q_indexV 2 rfl Try.underlying23 Try.sizeOf38 rfl (fun _ h => h.1) rfl hjm (by omega)) rfl rfl ?_
        refine d_q rfl (q_loadV 2 0 rfl Try.isAgg38 rfl rfl (fun _ h => h.1) hq rfl) rfl rfl ?_
        refine d_q rfl (q_move rfl rfl) rfl rfl ?_
        refine d_q rfl (q_move rfl rfl) rfl rfl ?_
        refine d_q rfl (q_indexV i rfl Try.underlying22 Try.sizeOf3 rfl (fun _ h => h.2) rfl rfl (by omega)) rfl rfl ?_
        refine d_q rfl (q_loadV i 0 rfl Try.isAgg3 rfl rfl (fun _ h => h.2) hx rfl) rfl rfl ?_
        refine d_e rfl ?_
        refine e_call_00 (op_ex x) rfl rfl rfl Try.call25 rfl (fun _ _ => trivial) ?_
        intro op _
        refine d_held (fun _ h => ⟨h.rd 0 rfl, hl.keep h (by simp [dom])⟩) ?_
        refine d_e rfl ?_
        refine e_buildSliceV (sz := 4) [.tmp 35] rfl rfl rfl rfl rfl Try.underlying38 Try.sizeOf37 rfl Try.zeroValue37 rfl ?_
        intro b6
        refine d_held (fun _ h => ⟨h.rd 1 rfl, hl.keep h (by simp [dom])⟩) ?_
        refine pull4 ?_
        refine d_e rfl ?_
        refine e_append rfl rfl rfl Try.underlying38 Try.underlying38 info37 rfl rfl rfl rfl rfl (fun _ h => lit_rd (h.at 1 rfl) Op.enc [op] rfl rfl) (by simp only [byt37, List.length_append, List.length_cons, List.length_nil]; omega) (by simp only [List.length_append, List.length_cons, List.length_nil]; omega) ?_
        intro v
        refine Pre.fact (fun _ h => row_sl (h.at 0 rfl)) ?_
        rintro ⟨ad, cp, rfl⟩
        refine d_held (fun _ h => ⟨h.rd 2 rfl, hl.keep h (by simp [dom])⟩) ?_
        refine d_q rfl (q_indexV 2 rfl Try.underlying23 Try.sizeOf38 rfl (fun _ h => h.1) rfl hjm (by omega)) rfl rfl ?_
        refine pull2 ?_
        refine d_t rfl ?_
        refine e_storeV 2 0 ((⟨ad, (o2 ++ [op]).length, cp⟩ : Sv)) rfl rfl Try.sizeOf38 rfl rfl rfl hq (by decide) rfl ?_
        refine d_nil ?_
        refine k_block ?_
        refine k_then ?_
        refine c_region _ rfl ?_
        refine l_q rfl (q_move rfl rfl) rfl rfl ?_
        refine l_q rfl (q_inc rfl rfl rfl (by omega)) rfl rfl ?_
        refine l_q rfl (q_assign rfl rfl) rfl rfl ?_
        refine l_nil ?_
        refine pull2 ?_
        refine drop0 ?_
        refine pull4 ?_
        refine pull2 ?_
        refine pull4 ?_
        refine pull4 ?_
        refine pull4 ?_
        exact k_round ((i + 1, q0, q1, ⟨ad, (o2 ++ [op]).length, cp⟩, q3, o0, o1, o2 ++ [op], o3)) (by dsimp only; omega) (by dsimp only; (try rw [List.length_append]); simp only [List.length_cons, List.length_nil]; omega) (Sub.cons rfl (Sub.cons rfl (Sub.cons rfl (Sub.cons rfl (Sub.nil))))) (fun _ h => by dsimp only; rw [← List.take_set] at h; exact h)
      · obtain ⟨hjm, hjn⟩ := hj
        have hq : ([q0, q1, q2, q3].take n)[3]? = some q3 := by rw [List.getElem?_take_of_lt hjn]; rfl
        refine c_draw [(0, some true), (1, some true), (2, some true), (3, some true), (4, some true), (5, some true), (6, some true), (7, some true), (8, some true), (9, some true), (10, some true), (11, some true), (12, some true), (13, some true), (14, some false), (15, some false), (16, some false), (17, some true), (18, none)] [18] [(_, some true), (_, some true), (_, some true), (_, some true), (_, some true), (_, some true), (_, some true), (_, some true), (_, some true), (_, some true), (_, some true), (_, some true), (_, some true), (_, some true), (_, some false), (_, some false), (_, some false), (_, some true), (_, none)] (fun w2 => RdV w2 vo encSv ([q0, q1, q2, q3].take n) ∧ RdV w2 va (encI .i64) l) (blind_block (blind_then (blind_then (blind_block (blind_then blind_body))))) rfl (by kernel_rfl) (by kernel_rfl) rfl rfl rfl (by kernel_rfl) St.drawn (fun _ h => ⟨h.rd 0 rfl, hl.keep h (by simp [dom])⟩) ?_
        refine d_q rfl (q_move rfl rfl) rfl rfl ?_
        refine d_q rfl (q_move rfl rfl) rfl rfl ?_
        refine d_q rfl (q_move rfl rfl) rfl rfl ?_
        refine d_q rfl (q_rem_nn rfl rfl rfl (by omega) (by omega)) rfl rfl ?_
        refine d_q rfl (q_move rfl rfl) rfl rfl ?_
        refine d_q rfl (q_move rfl rfl) rfl rfl ?_
        refine d_q rfl (q_move rfl rfl) rfl rfl ?_
        refine d_q rfl (q_rem_nn rfl rfl rfl (by omega) (by omega)) rfl rfl ?_
        refine d_q rfl (q_indexV 3 rfl Try.underlying23 Try.sizeOf38 rfl (fun _ h => h.1) rfl hjm (by omega)) rfl rfl ?_
        refine d_q rfl (q_loadV 3 0 rfl Try.isAgg38 rfl rfl (fun _ h => h.1) hq rfl) rfl rfl ?_
        refine d_q rfl (q_move rfl rfl) rfl rfl ?_
        refine d_q rfl (q_move rfl rfl) rfl rfl ?_
        refine d_q rfl (q_indexV i rfl Try.underlying22 Try.sizeOf3 rfl (fun _ h => h.2) rfl rfl (by omega)) rfl rfl ?_
        refine d_q rfl (q_loadV i 0 rfl Try.isAgg3 rfl rfl (fun _ h => h.2) hx rfl) rfl rfl ?_
        refine d_e rfl ?_
        refine e_call_00 (op_ex x) rfl rfl rfl Try.call25 rfl (fun _ _ => trivial) ?_
        intro op _
        refine d_held (fun _ h => ⟨h.rd 0 rfl, hl.keep h (by simp [dom])⟩) ?_
        refine d_e rfl ?_
        refine e_buildSliceV (sz := 4) [.tmp 35] rfl rfl rfl rfl rfl Try.underlying38 Try.sizeOf37 rfl Try.zeroValue37 rfl ?_
        intro b8
        refine d_held (fun _ h => ⟨h.rd 1 rfl, hl.keep h (by simp [dom])⟩) ?_
        refine pull5 ?_
        refine d_e rfl ?_
        refine e_append rfl rfl rfl Try.underlying38 Try.underlying38 info37 rfl rfl rfl rfl rfl (fun _ h => lit_rd (h.at 1 rfl) Op.enc [op] rfl rfl) (by simp only [byt37, List.length_append, List.length_cons, List.length_nil]; omega) (by simp only [List.length_append, List.length_cons, List.length_nil]; omega) ?_
        intro v
        refine Pre.fact (fun _ h => row_sl (h.at 0 rfl)) ?_
        rintro ⟨ad, cp, rfl⟩
        refine d_held (fun _ h => ⟨h.rd 2 rfl, hl.keep h (by simp [dom])⟩) ?_
        refine d_q rfl (q_indexV 3 rfl Try.underlying23 Try.sizeOf38 rfl (fun _ h => h.1) rfl hjm (by omega)) rfl rfl ?_
        refine pull2 ?_
        refine d_t rfl ?_
        refine e_storeV 3 0 ((⟨ad, (o3 ++ [op]).length, cp⟩ : Sv)) rfl rfl Try.sizeOf38 rfl rfl rfl hq (by decide) rfl ?_
        refine d_nil ?_
        refine k_block ?_
        refine k_then ?_
        refine c_region _ rfl ?_
        refine l_q rfl (q_move rfl rfl) rfl rfl ?_
        refine l_q rfl (q_inc rfl rfl rfl (by omega)) rfl rfl ?_
        refine l_q rfl (q_assign rfl rfl) rfl rfl ?_
        refine l_nil ?_
        refine pull2 ?_
        refine drop0 ?_
        refine pull1 ?_
        refine pull4 ?_
        refine pull4 ?_
        refine pull4 ?_
        refine pull4 ?_
        exact k_round ((i + 1, q0, q1, q2, ⟨ad, (o3 ++ [op]).length, cp⟩, o0, o1, o2, o3 ++ [op])) (by dsimp only; omega) (by dsimp only; (try rw [List.length_append]); simp only [List.length_cons, List.length_nil]; omega) (Sub.cons rfl (Sub.cons rfl (Sub.cons rfl (Sub.cons rfl (Sub.nil))))) (fun _ h => by dsimp only; rw [← List.take_set] at h; exact h)
    · try simp only [decide_eq_true_eq, decide_eq_false_iff_not, Bool.not_eq_true', Bool.not_eq_false'] at h2
      refine c_false rfl ?_
      refine c_exit ?_
      refine k_then_exit ?_
      refine k_then_exit ?_
      refine k_block_exit ?_
      refine k_then ?_
      refine c_seq ?_
      refine c_region _ rfl ?_
      refine l_q rfl (q_move rfl rfl) rfl rfl ?_
      refine l_q rfl (q_assign rfl rfl) rfl rfl ?_
      refine l_nil ?_
      refine k_then ?_
      refine c_ret ?_
      refine r_one rfl rfl ?_
      exact fun _ h => ⟨⟨vo, q0, q1, q2, q3, o0, o1, o2, o3⟩, rfl, ⟨by show o0.length ≤ 96; omega, by show o1.length ≤ 96; omega, by show o2.length ≤ 96; omega, by show o3.length ≤ 96; omega⟩, h⟩
  · try simp only [decide_eq_true_eq, decide_eq_false_iff_not, Bool.not_eq_true', Bool.not_eq_false'] at h1
    refine l_not rfl rfl rfl ?_
    refine l_not rfl rfl rfl ?_
    refine l_not rfl rfl rfl ?_
    refine l_not rfl rfl rfl ?_
    refine l_q rfl (q_pick_f rfl rfl rfl) rfl rfl ?_
    refine l_nil ?_
    refine k_then ?_
    refine c_false rfl ?_
    refine c_exit ?_
    refine k_then_exit ?_
    refine k_then_exit ?_
    refine k_block_exit ?_
    refine k_then ?_
    refine c_seq ?_
    refine c_region _ rfl ?_
    refine l_q rfl (q_move rfl rfl) rfl rfl ?_
    refine l_q rfl (q_assign rfl rfl) rfl rfl ?_
    refine l_nil ?_
    refine k_then ?_
    refine c_ret ?_
    refine r_one rfl rfl ?_
    exact fun _ h => ⟨⟨vo, q0, q1, q2, q3, o0, o1, o2, o3⟩, rfl, ⟨by show o0.length ≤ 96; omega, by show o1.length ≤ 96; omega, by show o2.length ≤ 96; omega, by show o3.length ≤ 96; omega⟩, h⟩
end Go.Proofs.Ythfdmeikpbkpaaa
