/- KeyOrders, walked -/
import Derived.Test.YtaojcncmbbgmcaaY
set_option linter.unusedVariables false
set_option linter.unusedSimpArgs false
namespace Go.Proofs.Ytaojcncmbbgmcaa
open Go.Sep Go.RowKit

set_option maxRecDepth 100000 in
set_option maxHeartbeats 1000000 in
theorem orders_spec {va : Value} (l : List ByteArray) (turn : Int) (hb : ∀ s ∈ l, s.size ≤ 9223372036854775807) : Con Try.prog 8 [va, .int .i64 turn] (fun w => RdV w va encS l) [] (fun _ : Unit => .bool true) (fun _ => True) (fun _ => []) := by
  intro w hl hH
  refine enter (n := 103) (vs := [va, .int .i64 turn]) (St w [] []) Try.func8 rfl rfl rfl (St.init hH) ?_
  refine c_seq ?_
  refine c_region _ rfl ?_
  refine l_q rfl (q_assign rfl rfl) rfl rfl ?_
  refine l_nil ?_
  refine k_then ?_
  refine c_seq ?_
  refine c_seq ?_
  refine c_region _ rfl ?_
  refine l_q rfl (q_move rfl rfl) rfl rfl ?_
  refine l_q rfl (q_lenV rfl Try.underlying44 rfl (fun _ h => hl.keep h (by simp [dom]))) rfl rfl ?_
  refine l_q rfl (q_gtr rfl rfl rfl) rfl rfl ?_
  refine l_q rfl (q_move rfl rfl) rfl rfl ?_
  refine Pre.caseB 16 rfl (fun h1 => ?_) (fun h1 => ?_)
  · try simp only [decide_eq_true_eq, decide_eq_false_iff_not, Bool.not_eq_true', Bool.not_eq_false'] at h1
    refine l_not rfl rfl rfl ?_
    refine l_not rfl rfl rfl ?_
    refine l_not rfl rfl rfl ?_
    refine l_q rfl (q_pick_t rfl rfl rfl) rfl rfl ?_
    refine l_nil ?_
    refine k_then ?_
    refine c_true rfl ?_
    refine c_seq ?_
    refine c_region _ rfl ?_
    refine l_e rfl ?_
    refine e_call_00 (awake_spec) rfl rfl rfl Try.call10 rfl (fun _ _ => trivial) ?_
    intro _ _
    refine l_q rfl (q_assign rfl rfl) rfl rfl ?_
    refine l_nil ?_
    refine k_then ?_
    refine c_ret ?_
    refine k_then_ret ?_
    refine r_one rfl rfl ?_
    exact fun _ h => ⟨(), rfl, trivial, h.nothing⟩
  · try simp only [decide_eq_true_eq, decide_eq_false_iff_not, Bool.not_eq_true', Bool.not_eq_false'] at h1
    refine l_q rfl (q_move rfl rfl) rfl rfl ?_
    refine l_q rfl (q_lenV rfl Try.underlying44 rfl (fun _ h => hl.keep h (by simp [dom]))) rfl rfl ?_
    refine l_q rfl (q_eql rfl rfl rfl) rfl rfl ?_
    refine l_q rfl (q_pick_f rfl rfl rfl) rfl rfl ?_
    refine l_nil ?_
    refine k_then ?_
    refine Pre.caseB 20 rfl (fun h2 => ?_) (fun h2 => ?_)
    · try simp only [decide_eq_true_eq, decide_eq_false_iff_not, Bool.not_eq_true', Bool.not_eq_false'] at h2
      refine c_true rfl ?_
      refine c_seq ?_
      refine c_region _ rfl ?_
      refine l_e rfl ?_
      refine e_call_00 (awake_spec) rfl rfl rfl Try.call10 rfl (fun _ _ => trivial) ?_
      intro _ _
      refine l_q rfl (q_assign rfl rfl) rfl rfl ?_
      refine l_nil ?_
      refine k_then ?_
      refine c_ret ?_
      refine k_then_ret ?_
      refine r_one rfl rfl ?_
      exact fun _ h => ⟨(), rfl, trivial, h.nothing⟩
    · try simp only [decide_eq_true_eq, decide_eq_false_iff_not, Bool.not_eq_true', Bool.not_eq_false'] at h2
      refine c_false rfl ?_
      refine c_skip ?_
      refine k_then ?_
      refine c_seq ?_
      refine c_region _ rfl ?_
      refine l_q rfl (q_assign rfl rfl) rfl rfl ?_
      refine l_nil ?_
      refine k_then ?_
      refine c_seq ?_
      refine c_seq ?_
      refine c_region _ rfl ?_
      refine l_q rfl (q_assign rfl rfl) rfl rfl ?_
      refine l_nil ?_
      refine k_then ?_
      refine c_block ?_
      refine row0 24 (Kv.enc 8) none ?_
      refine c_loop2 (fun (i : Nat) (vk : Value) => [(0, va), (1, .int .i64 turn), (5, vk), (6, .int .i64 (i : Int))]) (fun (i : Nat) (vk : Value) => St w [] [rowE vk 24 (Kv.enc 8) (kks (l.take i))]) (fun (i : Nat) (vk : Value) => i ≤ l.length) (fun (i : Nat) (vk : Value) => l.length - i) (0) (.slice none 0 0) (Nat.zero_le _) (Sub.cons rfl (Sub.cons rfl (Sub.cons rfl (Sub.cons rfl (Sub.nil))))) (fun _ h => h) ?_
      intro i vk hi
      refine c_seq ?_
      refine c_seq ?_
      have hkl := kks_len (l.take i)
      have htl := List.length_take_le i l
      refine c_region _ rfl ?_
      refine l_q rfl (q_move rfl rfl) rfl rfl ?_
      refine l_q rfl (q_move rfl rfl) rfl rfl ?_
      refine l_q rfl (q_lenV rfl Try.underlying44 rfl (fun _ h => hl.keep h (by simp [dom]))) rfl rfl ?_
      refine l_q rfl (q_lss rfl rfl rfl) rfl rfl ?_
      refine l_nil ?_
      refine k_then ?_
      refine Pre.caseB 25 rfl (fun h3 => ?_) (fun h3 => ?_)
      · try simp only [decide_eq_true_eq, decide_eq_false_iff_not, Bool.not_eq_true', Bool.not_eq_false'] at h3
        obtain ⟨x, hx⟩ : ∃ x, l[i]? = some x := ⟨_, List.getElem?_eq_getElem (by omega)⟩
        obtain ⟨p, hp⟩ : ∃ p, p = ofM x := ⟨_, rfl⟩
        refine c_true rfl ?_
        refine c_skip ?_
        refine k_then ?_
        refine c_seq ?_
        refine c_block ?_
        refine c_seq ?_
        refine c_region _ rfl ?_
        refine l_q rfl (q_move rfl rfl) rfl rfl ?_
        refine l_q rfl (q_move rfl rfl) rfl rfl ?_
        refine l_q rfl (q_indexV i rfl Try.underlying44 Try.sizeOf9 rfl (fun _ h => hl.keep h (by simp [dom])) rfl rfl (by omega)) rfl rfl ?_
        refine l_q rfl (q_loadV i 0 rfl Try.isAgg9 rfl rfl (fun _ h => hl.keep h (by simp [dom])) hx rfl) rfl rfl ?_
        refine l_e rfl ?_
        refine e_call_00 (of_all x (hb x (List.mem_of_getElem? hx))) rfl rfl rfl Try.call11 rfl (fun _ _ => trivial) ?_
        intro _ _
        rw [← hp]
        refine l_q rfl (q_move rfl rfl) rfl rfl ?_
        refine l_q rfl (q_extract rfl rfl rfl) rfl rfl ?_
        refine l_q rfl (q_extract rfl rfl rfl) rfl rfl ?_
        refine l_e rfl ?_
        refine e_alloc rfl rfl rfl Try.zeroValue24 ?_
        intro ba
        refine cells_eq (show _ = kc 0 z8 from rfl) ?_
        refine l_e rfl ?_
        refine e_storeAgg rfl rfl Try.sizeOf24 rfl rfl (Kv.c_len _) (Kv.one _) (by rw [show ((p.1).c).length = 9 from Kv.c_len _, kc_len z8_len]; decide) ?_
        refine cells_eq (show Sep.splice _ 0 (p.1).c = (p.1).c from Sep.splice_all (by rw [Kv.c_len, kc_len z8_len])) ?_
        refine l_q rfl (q_assign rfl rfl) rfl rfl ?_
        refine l_nil ?_
        refine k_then ?_
        refine c_seq ?_
        refine c_region _ rfl ?_
        refine l_q rfl (q_move rfl rfl) rfl rfl ?_
        refine l_q rfl (q_eql rfl rfl rfl) rfl rfl ?_
        refine l_nil ?_
        refine k_then ?_
        refine Pre.caseB 37 rfl (fun h4 => ?_) (fun h4 => ?_)
        · try simp only [decide_eq_true_eq, decide_eq_false_iff_not, Bool.not_eq_true', Bool.not_eq_false'] at h4
          have hky := kks_yes hx (by rw [← hp]; exact h4)
          rw [← hp] at hky
          refine c_true rfl ?_
          refine c_region _ rfl ?_
          refine l_q rfl (q_move rfl rfl) rfl rfl ?_
          refine l_q rfl (q_loadCAgg (p.1.c) rfl Try.isAgg24 Try.sizeOf24 rfl (fun _ h => h.at 0 rfl) (kv_whole _) (Kv.c_len _)) rfl rfl ?_
          refine l_e rfl ?_
          refine e_buildSliceV (sz := 9) [.tmp 39] rfl rfl rfl rfl rfl Try.underlying25 Try.sizeOf24 rfl Try.zeroValue24 (by simp [Value.cells, Kv.c_len]) ?_
          intro b1
          refine pull2 ?_
          refine l_e rfl ?_
          refine e_append rfl rfl rfl Try.underlying25 Try.underlying25 info24 rfl rfl rfl rfl rfl (fun _ h => lit_rd (h.at 1 rfl) (Kv.enc 8) [p.1] rfl rfl) (by simp only [byt24, List.length_append, List.length_cons, List.length_nil]; omega) (by simp only [List.length_append, List.length_cons, List.length_nil]; omega) ?_
          intro v2
          refine row_eq (hky.symm) ?_
          refine pull1 ?_
          refine drop0 ?_
          refine l_q rfl (q_assign rfl rfl) rfl rfl ?_
          refine l_nil ?_
          refine k_block ?_
          refine k_then ?_
          refine c_region _ rfl ?_
          refine l_q rfl (q_move rfl rfl) rfl rfl ?_
          refine l_q rfl (q_inc rfl rfl rfl (by omega)) rfl rfl ?_
          refine l_q rfl (q_assign rfl rfl) rfl rfl ?_
          refine l_nil ?_
          refine pull1 ?_
          refine drop0 ?_
          exact k_round ((i + 1, v2)) (by dsimp only; omega) (by dsimp only; omega) (Sub.cons rfl (Sub.cons rfl (Sub.cons rfl (Sub.cons rfl (Sub.nil))))) (fun _ h => h)
        · try simp only [decide_eq_true_eq, decide_eq_false_iff_not, Bool.not_eq_true', Bool.not_eq_false'] at h4
          have hkn := kks_no hx (by rw [← hp]; exact h4)
          refine c_false rfl ?_
          refine c_skip ?_
          refine k_block ?_
          refine k_then ?_
          refine c_region _ rfl ?_
          refine l_q rfl (q_move rfl rfl) rfl rfl ?_
          refine l_q rfl (q_inc rfl rfl rfl (by omega)) rfl rfl ?_
          refine l_q rfl (q_assign rfl rfl) rfl rfl ?_
          refine l_nil ?_
          refine drop0 ?_
          exact k_round ((i + 1, vk)) (by dsimp only; omega) (by dsimp only; omega) (Sub.cons rfl (Sub.cons rfl (Sub.cons rfl (Sub.cons rfl (Sub.nil))))) (fun _ h => by dsimp only; rw [hkn]; exact h)
      · try simp only [decide_eq_true_eq, decide_eq_false_iff_not, Bool.not_eq_true', Bool.not_eq_false'] at h3
        have hie : i = l.length := by omega
        subst hie
        rw [List.take_length] at hkl ⊢
        obtain ⟨k, hk⟩ : ∃ k, k = kks l := ⟨_, rfl⟩
        have hck : ∀ x ∈ k, kck x = true := fun x hx => kks_ck (hk ▸ hx)
        rw [← hk] at hkl ⊢
        refine c_false rfl ?_
        refine c_exit ?_
        refine k_then_exit ?_
        refine k_then_exit ?_
        refine k_block_exit ?_
        refine k_then ?_
        refine c_seq ?_
        refine c_region _ rfl ?_
        refine l_q rfl (q_move rfl rfl) rfl rfl ?_
        refine l_e rfl ?_
        refine e_call_01 (order_spec k (by omega)) rfl rfl rfl Try.call20 rfl (fun _ h => h.rd 0 rfl) ?_
        intro vo _
        refine l_q rfl (q_assign rfl rfl) rfl rfl ?_
        refine l_nil ?_
        refine k_then ?_
        refine c_seq ?_
        refine c_seq ?_
        refine c_region _ rfl ?_
        refine l_q rfl (q_assign rfl rfl) rfl rfl ?_
        refine l_nil ?_
        refine k_then ?_
        refine c_block ?_
        have hol := oi_len (l := k)
        have hri := oi_rise k
        refine c_loop1 (fun (j : Nat) => [(1, .int .i64 turn), (5, vk), (9, vo), (10, .int .i64 ((j + 1 : Nat) : Int))]) (fun (j : Nat) => St w [] [rowE vo 24 (Kv.enc 8) (oi k), rowE vk 24 (Kv.enc 8) k]) (fun (j : Nat) => True) (fun (j : Nat) => (oi k).length - j) (0) trivial (Sub.cons rfl (Sub.cons rfl (Sub.cons rfl (Sub.cons rfl (Sub.nil))))) (fun _ h => h) ?_
        intro j _
        refine c_seq ?_
        refine c_seq ?_
        refine c_region _ rfl ?_
        refine l_q rfl (q_move rfl rfl) rfl rfl ?_
        refine l_q rfl (q_move rfl rfl) rfl rfl ?_
        refine l_q rfl (q_lenV rfl Try.underlying25 rfl (fun _ h => h.rd 0 rfl)) rfl rfl ?_
        refine l_q rfl (q_lss rfl rfl rfl) rfl rfl ?_
        refine l_nil ?_
        refine k_then ?_
        refine Pre.caseB 47 rfl (fun h5 => ?_) (fun h5 => ?_)
        · try simp only [decide_eq_true_eq, decide_eq_false_iff_not, Bool.not_eq_true', Bool.not_eq_false'] at h5
          obtain ⟨x, hxj⟩ : ∃ x, (oi k)[j]? = some x := ⟨_, List.getElem?_eq_getElem (by omega)⟩
          obtain ⟨y, hyj⟩ : ∃ y, (oi k)[j + 1]? = some y := ⟨_, List.getElem?_eq_getElem (by omega)⟩
          have hlt := rise_at hri hxj hyj
          refine c_true rfl ?_
          refine c_skip ?_
          refine k_then ?_
          refine c_seq ?_
          refine c_block ?_
          refine c_seq ?_
          refine c_draw [(0, some true), (1, some true), (2, some true), (3, some true), (4, some true), (5, some true), (6, some true), (7, some true), (8, some true), (9, some false), (10, some true)] [] [(_, some true), (_, some true), (_, some true), (_, some true), (_, some true), (_, some true), (_, some true), (_, some true), (_, some true), (_, some false), (_, some true)] _ (blind_then (blind_block (blind_then (blind_then (blind_block (blind_then blind_body)))))) rfl (by kernel_rfl) (by kernel_rfl) rfl rfl rfl (by kernel_rfl) St.drawn (fun _ h => h) ?_
          refine d_q rfl (q_move rfl rfl) rfl rfl ?_
          refine d_q rfl (q_move rfl rfl) rfl rfl ?_
          refine d_q rfl (q_sub64 rfl rfl rfl (by omega)) rfl rfl ?_
          refine d_q rfl (q_indexV j rfl Try.underlying25 Try.sizeOf24 rfl (fun _ h => h.rd 0 rfl) rfl (by omega) (by omega)) rfl rfl ?_
          refine d_q rfl (q_loadVAgg j rfl Try.isAgg24 Try.sizeOf24 rfl rfl (fun _ h => h.rd 0 rfl) hxj) rfl rfl ?_
          refine d_q rfl (q_move rfl rfl) rfl rfl ?_
          refine d_q rfl (q_move rfl rfl) rfl rfl ?_
          refine d_q rfl (q_indexV (j + 1) rfl Try.underlying25 Try.sizeOf24 rfl (fun _ h => h.rd 0 rfl) rfl rfl (by omega)) rfl rfl ?_
          refine d_q rfl (q_loadVAgg (j + 1) rfl Try.isAgg24 Try.sizeOf24 rfl rfl (fun _ h => h.rd 0 rfl) hyj) rfl rfl ?_
          refine d_e rfl ?_
          refine e_call_00 (cmp_spec x y) rfl rfl rfl Try.call24 rfl (fun _ _ => trivial) ?_
          intro _ _
          refine d_held (fun _ h => h) ?_
          refine d_q rfl (q_geq rfl rfl rfl) rfl rfl ?_
          refine d_nil ?_
          refine k_then ?_
          refine Pre.setB (t := 60) (c := false) rfl (decide_eq_false (by omega)) ?_
          refine c_false rfl ?_
          refine c_skip ?_
          refine k_block ?_
          refine k_then ?_
          refine c_region _ rfl ?_
          refine l_q rfl (q_move rfl rfl) rfl rfl ?_
          refine l_q rfl (q_inc rfl rfl rfl (by omega)) rfl rfl ?_
          refine l_q rfl (q_assign rfl rfl) rfl rfl ?_
          refine l_nil ?_
          exact k_round (j + 1) (by omega) trivial (Sub.cons rfl (Sub.cons rfl (Sub.cons rfl (Sub.cons rfl (Sub.nil))))) (fun _ h => h)
        · try simp only [decide_eq_true_eq, decide_eq_false_iff_not, Bool.not_eq_true', Bool.not_eq_false'] at h5
          refine c_false rfl ?_
          refine c_exit ?_
          refine k_then_exit ?_
          refine k_then_exit ?_
          refine k_block_exit ?_
          refine k_then ?_
          refine c_seq ?_
          refine c_region _ rfl ?_
          refine l_q rfl (q_assign rfl rfl) rfl rfl ?_
          refine l_nil ?_
          refine k_then ?_
          refine c_seq ?_
          refine c_seq ?_
          refine c_region _ rfl ?_
          refine l_q rfl (q_move rfl rfl) rfl rfl ?_
          refine l_q rfl (q_lenV rfl Try.underlying25 rfl (fun _ h => h.rd 1 rfl)) rfl rfl ?_
          refine l_q rfl (q_gtr rfl rfl rfl) rfl rfl ?_
          refine l_nil ?_
          refine k_then ?_
          refine c_meet1 (fun (z : Int) => [(5, vk), (9, vo), (11, .int .i64 z)]) (fun (z : Int) => St w [] [rowE vo 24 (Kv.enc 8) (oi k), rowE vk 24 (Kv.enc 8) k]) (fun (z : Int) => -(k.length : Int) ≤ z ∧ z ≤ (k.length : Int)) ?_ ?_
          · refine Pre.caseB 63 rfl (fun h6 => ?_) (fun h6 => ?_)
            · try simp only [decide_eq_true_eq, decide_eq_false_iff_not, Bool.not_eq_true', Bool.not_eq_false'] at h6
              have hz1 := Int.tmod_lt_of_pos turn (b := (k.length : Int)) (by omega)
              have hz2 : -(k.length : Int) < turn.tmod (k.length : Int) := Int.lt_tmod_of_pos turn (by omega)
              refine c_true rfl ?_
              refine c_region _ rfl ?_
              refine l_q rfl (q_move rfl rfl) rfl rfl ?_
              refine l_q rfl (q_move rfl rfl) rfl rfl ?_
              refine l_q rfl (q_lenV rfl Try.underlying25 rfl (fun _ h => h.rd 1 rfl)) rfl rfl ?_
              refine l_q rfl (q_rem rfl rfl rfl (by omega)) rfl rfl ?_
              refine l_q rfl (q_assign rfl rfl) rfl rfl ?_
              refine l_nil ?_
              exact k_meet (_) ⟨by omega, by omega⟩ (Sub.cons rfl (Sub.cons rfl (Sub.cons rfl (Sub.nil)))) (fun _ h => h)
            · try simp only [decide_eq_true_eq, decide_eq_false_iff_not, Bool.not_eq_true', Bool.not_eq_false'] at h6
              refine c_false rfl ?_
              refine c_skip ?_
              exact k_meet (0) ⟨by omega, by omega⟩ (Sub.cons rfl (Sub.cons rfl (Sub.cons rfl (Sub.nil)))) (fun _ h => h)
          · intro z hz
            obtain ⟨hz1, hz2⟩ := hz
            refine c_seq ?_
            refine c_seq ?_
            refine c_region _ rfl ?_
            refine l_q rfl (q_move rfl rfl) rfl rfl ?_
            refine l_q rfl (q_lss rfl rfl rfl) rfl rfl ?_
            refine l_nil ?_
            refine k_then ?_
            refine c_meet1 (fun (a : Nat) => [(5, vk), (9, vo), (11, .int .i64 (a : Int))]) (fun (a : Nat) => St w [] [rowE vo 24 (Kv.enc 8) (oi k), rowE vk 24 (Kv.enc 8) k]) (fun (a : Nat) => a ≤ k.length) ?_ ?_
            · refine Pre.caseB 69 rfl (fun h7 => ?_) (fun h7 => ?_)
              · try simp only [decide_eq_true_eq, decide_eq_false_iff_not, Bool.not_eq_true', Bool.not_eq_false'] at h7
                refine c_true rfl ?_
                refine c_region _ rfl ?_
                refine l_q rfl (q_move rfl rfl) rfl rfl ?_
                refine l_q rfl (q_neg rfl rfl) rfl rfl ?_
                refine l_q rfl (q_assign rfl rfl) rfl rfl ?_
                refine l_nil ?_
                exact k_meet ((-z).toNat) (by omega) (Sub.cons rfl (Sub.cons rfl (Sub.consE rfl (by rw [wrap64_in (by omega)]; congr 1; omega) Sub.nil))) (fun _ h => h)
              · try simp only [decide_eq_true_eq, decide_eq_false_iff_not, Bool.not_eq_true', Bool.not_eq_false'] at h7
                refine c_false rfl ?_
                refine c_skip ?_
                exact k_meet (z.toNat) (by omega) (Sub.cons rfl (Sub.cons rfl (Sub.consE rfl (by congr 1; omega) Sub.nil))) (fun _ h => h)
            · intro a ha
              refine c_seq ?_
              refine c_draw [(1, some true), (2, some true), (3, some true), (5, some true), (6, some true), (7, some true), (0, some false), (4, some false), (8, some false), (9, some true)] [] [(_, some true), (_, some true), (_, some true), (_, some true), (_, some true), (_, some true), (_, some false), (_, some false), (_, some false), (_, some true)] (fun w2 => RdV w2 vk (Kv.enc 8) k) (blind_then blind_body) rfl (by kernel_rfl) (by kernel_rfl) rfl rfl rfl (by kernel_rfl) St.drawn (fun _ h => h.rd 1 rfl) ?_
              refine d_q rfl (q_move rfl rfl) rfl rfl ?_
              refine d_q rfl (q_move rfl rfl) rfl rfl ?_
              refine d_q rfl (q_sliceVL a rfl Try.underlying25 Try.sizeOf24 rfl (fun _ h => h) rfl rfl (by omega)) rfl rfl ?_
              refine d_q rfl (q_move rfl rfl) rfl rfl ?_
              refine d_q rfl (q_move rfl rfl) rfl rfl ?_
              refine d_q rfl (q_sliceVH a rfl Try.underlying25 Try.sizeOf24 rfl (fun _ h => h) rfl rfl (by omega)) rfl rfl ?_
              refine d_e rfl ?_
              refine e_buildSliceV (sz := 9) [] rfl rfl rfl rfl rfl Try.underlying25 Try.sizeOf24 rfl Try.zeroValue24 rfl ?_
              intro bo
              refine rowLit (Kv.enc 8) [] rfl rfl ?_
              refine d_held (fun _ h => h.rd 2 rfl) ?_
              refine d_e rfl ?_
              refine e_append rfl rfl rfl Try.underlying25 Try.underlying25 info24 rfl rfl rfl rfl rfl (fun _ h => vsl_rd (h.rd 2 rfl) (lo := a) (hi := k.length) ha (Nat.le_refl _)) (by simp only [byt24, List.length_append, List.length_cons, List.length_nil, List.length_drop, List.length_take]; omega) (by simp only [List.length_append, List.length_cons, List.length_nil, List.length_drop, List.length_take]; omega) ?_
              intro v4
              refine d_held (fun _ h => h.rd 2 rfl) ?_
              refine d_e rfl ?_
              refine e_append rfl rfl rfl Try.underlying25 Try.underlying25 info24 rfl rfl rfl rfl rfl (fun _ h => vsl_rd (h.rd 2 rfl) (lo := 0) (hi := a) (Nat.zero_le _) ha) (by simp only [byt24, List.length_append, List.length_cons, List.length_nil, List.length_drop, List.length_take]; omega) (by simp only [List.length_append, List.length_cons, List.length_nil, List.length_drop, List.length_take]; omega) ?_
              intro v5
              refine d_held (fun _ h => h.rd 2 rfl) ?_
              refine d_q rfl (q_assign rfl rfl) rfl rfl ?_
              refine d_nil ?_
              refine k_then ?_
              refine c_seq ?_
              refine row_eq (l' := k.drop a ++ k.take a) (by simp) ?_
              have hmo : ∀ x, x ∈ k.drop a ++ k.take a ↔ x ∈ k := fun x => by rw [List.mem_append, or_comm, ← List.mem_append, List.take_append_drop]
              have ho1 : oi (k.drop a ++ k.take a) = oi k := oi_congr hmo
              have ho2 : oi (k.drop a ++ k.take a ++ oi k) = oi k := oi_congr (fun x => by rw [List.mem_append, hmo, oi_mem]; exact ⟨fun h => by rcases h with h | h; exact h; exact h.1, fun h => .inl h⟩)
              have hdd := oi_dd hck
              have hlo : (k.drop a ++ k.take a).length = k.length := by rw [List.length_append, List.length_drop, List.length_take]; omega
              refine c_region _ rfl ?_
              refine l_q rfl (q_move rfl rfl) rfl rfl ?_
              refine l_q rfl (q_lenV rfl Try.underlying25 rfl (fun _ h => h.rd 1 rfl)) rfl rfl ?_
              refine l_q rfl (q_move rfl rfl) rfl rfl ?_
              refine l_e rfl ?_
              refine e_call_00 (kinds_spec k (by omega)) rfl rfl rfl Try.call17 rfl (fun _ h => h.rd 2 rfl) ?_
              intro _ _
              refine l_q rfl (q_eql rfl rfl rfl) rfl rfl ?_
              refine l_q rfl (q_move rfl rfl) rfl rfl ?_
              refine Pre.setB (t := 86) (c := true) rfl (by first | rfl | (simp; done) | exact decide_eq_true (congrArg (fun n : Nat => (n : Int)) hdd)) ?_
              refine l_q rfl (q_move rfl rfl) rfl rfl ?_
              refine l_e rfl ?_
              refine e_call_01 (order_spec (k.drop a ++ k.take a) (by simp only [List.length_append] at *; omega)) rfl rfl rfl Try.call20 rfl (fun _ h => h.rd 0 rfl) ?_
              intro vo1 _
              rw [ho1]
              refine l_q rfl (q_move rfl rfl) rfl rfl ?_
              refine l_e rfl ?_
              refine e_call_00 (same_spec (oi k) (oi k) (by omega)) rfl rfl rfl Try.call19 rfl (fun _ h => ⟨h.rd 0 rfl, h.rd 2 rfl⟩) ?_
              intro _ _
              refine l_q rfl (q_pick_t rfl rfl rfl) rfl rfl ?_
              refine l_q rfl (q_move rfl rfl) rfl rfl ?_
              refine Pre.setB (t := 92) (c := true) rfl (by first | rfl | (simp; done) | exact decide_eq_true (congrArg (fun n : Nat => (n : Int)) hdd)) ?_
              refine l_q rfl (q_move rfl rfl) rfl rfl ?_
              refine l_q rfl (q_move rfl rfl) rfl rfl ?_
              refine pull1 ?_
              refine l_e rfl ?_
              refine e_append rfl rfl rfl Try.underlying25 Try.underlying25 info24 rfl rfl rfl rfl rfl (fun _ h => h.rd 2 rfl) (by simp only [byt24, List.length_append, List.length_cons, List.length_nil, List.length_drop, List.length_take]; omega) (by simp only [List.length_append, List.length_cons, List.length_nil, List.length_drop, List.length_take]; omega) ?_
              intro v6
              refine l_e rfl ?_
              refine e_call_01 (order_spec (k.drop a ++ k.take a ++ oi k) (by simp only [List.length_append] at *; omega)) rfl rfl rfl Try.call20 rfl (fun _ h => h.rd 0 rfl) ?_
              intro vo2 _
              rw [ho2]
              refine l_q rfl (q_move rfl rfl) rfl rfl ?_
              refine l_e rfl ?_
              refine e_call_00 (same_spec (oi k) (oi k) (by omega)) rfl rfl rfl Try.call19 rfl (fun _ h => ⟨h.rd 0 rfl, h.rd 3 rfl⟩) ?_
              intro _ _
              refine l_q rfl (q_pick_t rfl rfl rfl) rfl rfl ?_
              refine l_q rfl (q_move rfl rfl) rfl rfl ?_
              refine Pre.setB (t := 100) (c := true) rfl (by first | rfl | (simp; done)) ?_
              refine l_e rfl ?_
              refine e_call_00 (awake_spec) rfl rfl rfl Try.call10 rfl (fun _ _ => trivial) ?_
              intro _ _
              refine l_q rfl (q_pick_t rfl rfl rfl) rfl rfl ?_
              refine l_q rfl (q_assign rfl rfl) rfl rfl ?_
              refine l_nil ?_
              refine k_then ?_
              refine c_ret ?_
              refine r_one rfl rfl ?_
              exact fun _ h => ⟨(), rfl, trivial, h.nothing⟩
theorem keyOrders_walk (w : World) (A0 : Option Addr) (c0 : Nat) (z0 : List ByteArray) (rd0 : Rd w w.heap.size A0 (z0.map .string)) (l0 : z0.length ≤ c0) (m0 : c0 ≤ maxLen) (w0 : ∀ z ∈ z0, z.size ≤ maxLen) (a1 : Int) (w1 : (Lit.int .i64 a1).wf = true) :
    Calls Try.prog 8 #[.slice A0 z0.length c0, .int .i64 a1] w fun e w' => e = .returned (.bool true) ∧ Below w.heap.size w w' := by
  have f0 := flat_one' encS Value.string (fun _ => rfl) z0
  rw [← f0] at rd0
  exact con_walk (orders_spec z0 a1 w0) (rdv_of rd0 l0)
end Go.Proofs.Ytaojcncmbbgmcaa
