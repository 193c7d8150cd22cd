/- LatchRow, walked -/
import Derived.Test.YtlakembncfkimaaF
import Derived.Test.YtlakembncfkimaaR
import Derived.Test.YtlakembncfkimaaS9
set_option linter.unusedVariables false
set_option linter.unusedSimpArgs false
namespace Go.Proofs.Ytlakembncfkimaa
open Go.Sep Go.RowKit

set_option maxRecDepth 100000 in
set_option maxHeartbeats 1000000 in
theorem row_spec {va : Value} (l : List Bool) : Con Try.prog 3 [va] (fun w => RdV w va encB l) [] (fun _ : Unit => .bool true) (fun _ => True) (fun _ => []) := by
  intro w hl hH
  refine enter (n := 120) (vs := [va]) (St w [] []) Try.func3 rfl rfl rfl (St.init hH) ?_
  refine c_seq ?_
  refine c_region _ rfl ?_
  refine l_q rfl (q_assign rfl rfl) rfl rfl ?_
  refine l_nil ?_
  refine k_then ?_
  refine c_seq ?_
  refine c_region _ rfl ?_
  refine l_e rfl ?_
  refine e_call_03 (new_spec) rfl rfl rfl Try.call10 rfl (fun _ _ => trivial) ?_
  intro b _
  refine l_q rfl (q_assign rfl rfl) rfl rfl ?_
  refine l_nil ?_
  refine k_then ?_
  refine c_seq ?_
  refine c_seq ?_
  refine c_region _ rfl ?_
  refine l_q rfl (q_move rfl rfl) rfl rfl ?_
  refine l_q rfl (q_eqp rfl Try.underlying23 rfl rfl) rfl rfl ?_
  refine l_q rfl (q_move rfl rfl) rfl rfl ?_
  refine Pre.setB (t := 14) (c := false) rfl (rfl) ?_
  refine l_q rfl (q_move rfl rfl) rfl rfl ?_
  refine l_q rfl (q_lenV rfl Try.underlying22 rfl (fun _ h => hl.keep h (by simp [dom]))) rfl rfl ?_
  refine l_q rfl (q_gtr rfl rfl rfl) rfl rfl ?_
  refine l_q rfl (q_pick_f rfl rfl rfl) rfl rfl ?_
  refine l_nil ?_
  refine k_then ?_
  refine Pre.caseB 18 rfl (fun h20 => ?_) (fun h20 => ?_)
  · try simp only [decide_eq_true_eq, decide_eq_false_iff_not, Bool.not_eq_true', Bool.not_eq_false'] at h20
    refine c_true rfl ?_
    refine c_seq ?_
    refine c_region _ rfl ?_
    refine l_q rfl (q_move rfl rfl) rfl rfl ?_
    refine l_q rfl (q_nep rfl Try.underlying23 rfl rfl) rfl rfl ?_
    refine l_q rfl (q_move rfl rfl) rfl rfl ?_
    refine Pre.setB (t := 21) (c := true) rfl (rfl) ?_
    refine l_e rfl ?_
    refine e_call_00 (awake_spec) rfl rfl rfl Try.call11 rfl (fun _ _ => trivial) ?_
    intro _ _
    refine l_q rfl (q_pick_t rfl rfl rfl) rfl rfl ?_
    refine l_q rfl (q_assign rfl rfl) rfl rfl ?_
    refine l_nil ?_
    refine k_then ?_
    refine c_ret ?_
    refine k_then_ret ?_
    refine r_one rfl rfl ?_
    exact fun _ h => ⟨(), rfl, trivial, h.nothing⟩
  · try simp only [decide_eq_true_eq, decide_eq_false_iff_not, Bool.not_eq_true', Bool.not_eq_false'] at h20
    have hbn := bsy_new 100
    refine c_false rfl ?_
    refine c_skip ?_
    refine k_then ?_
    refine c_seq ?_
    refine c_seq ?_
    refine c_region _ rfl ?_
    refine l_q rfl (q_move rfl rfl) rfl rfl ?_
    refine pull2 ?_
    refine pull2 ?_
    refine pull2 ?_
    refine l_e rfl ?_
    refine e_call_33 (take_spec new_ok (by omega) b (.slice none 0 0) (.slice none 0 0) 100 true) rfl rfl rfl Try.call12 rfl (fun _ _ => trivial) ?_
    intro q1 _
    refine l_q rfl (q_not rfl rfl) rfl rfl ?_
    refine l_nil ?_
    refine k_then ?_
    have hk0 : (bsy 100 []).Ok 1 := hbn.2 ▸ take_ok new_ok 100 true
    have hbn2 : takeL newL 100 true = bsy 100 [] := hbn.2
    rw [hbn2]
    refine Pre.setB (t := 26) (c := false) rfl (by rw [show tryB newL 100 true = true from hbn.1]; rfl) ?_
    refine c_false rfl ?_
    refine c_skip ?_
    refine k_then ?_
    refine c_seq ?_
    refine c_seq ?_
    refine c_region _ rfl ?_
    refine l_q rfl (q_assign rfl rfl) rfl rfl ?_
    refine l_nil ?_
    refine k_then ?_
    refine c_block ?_
    refine c_loop3 (fun (i : Nat) (vR : Value) (vQ : Value) => [(0, va), (3, .pointer (some ⟨b, 0, none⟩)), (4, .int .i64 (i : Int))]) (fun (i : Nat) (vR : Value) (vQ : Value) => St w [] (LT b vR vQ (bsy 100 (l.take i)))) (fun (i : Nat) (vR : Value) (vQ : Value) => i ≤ l.length ∧ (bsy 100 (l.take i)).Ok (i + 1)) (fun (i : Nat) (vR : Value) (vQ : Value) => l.length - i) (0) (q1.1) (q1.2) ⟨Nat.zero_le _, hk0⟩ (Sub.cons rfl (Sub.cons rfl (Sub.cons rfl (Sub.nil)))) (fun _ h => h) ?_
    intro i vR vQ hp
    refine c_seq ?_
    refine c_seq ?_
    obtain ⟨hi, hok⟩ := hp
    refine c_region _ rfl ?_
    refine l_q rfl (q_move rfl rfl) rfl rfl ?_
    refine l_q rfl (q_move rfl rfl) rfl rfl ?_
    refine l_q rfl (q_lenV rfl Try.underlying22 rfl (fun _ h => hl.keep h (by simp [dom]))) rfl rfl ?_
    refine l_q rfl (q_lss rfl rfl rfl) rfl rfl ?_
    refine l_nil ?_
    refine k_then ?_
    refine Pre.caseB 30 rfl (fun h1 => ?_) (fun h1 => ?_)
    · try simp only [decide_eq_true_eq, decide_eq_false_iff_not, Bool.not_eq_true', Bool.not_eq_false'] at h1
      obtain ⟨x, hx⟩ : ∃ x, l[i]? = some x := ⟨_, List.getElem?_eq_getElem (by omega)⟩
      have htl : (l.take i).length = i := by rw [List.length_take]; omega
      have hbt := bsy_take (c := 100) (ws := l.take i) (b := x) (by omega)
      rw [htl] at hbt
      have htk : l.take (i + 1) = l.take i ++ [x] := by rw [List.take_add_one, hx]; rfl
      refine c_true rfl ?_
      refine c_skip ?_
      refine k_then ?_
      refine c_seq ?_
      refine c_block ?_
      refine c_seq ?_
      refine c_region _ rfl ?_
      refine l_q rfl (q_move rfl rfl) rfl rfl ?_
      refine l_q rfl (q_move rfl rfl) rfl rfl ?_
      refine l_q rfl (q_move rfl rfl) rfl rfl ?_
      refine l_q rfl (q_move rfl rfl) rfl rfl ?_
      refine l_q rfl (q_indexV i rfl Try.underlying22 Try.sizeOf4 rfl (fun _ h => hl.keep h (by simp [dom])) rfl rfl (by omega)) rfl rfl ?_
      refine l_q rfl (q_loadV i 0 rfl Try.isAgg4 rfl rfl (fun _ h => hl.keep h (by simp [dom])) hx rfl) rfl rfl ?_
      refine pull2 ?_
      refine pull2 ?_
      refine pull2 ?_
      refine l_e rfl ?_
      refine e_call_33 (take_spec hok (by omega) b vR vQ (i : Int) x) rfl rfl rfl Try.call12 rfl (fun _ _ => trivial) ?_
      intro q2 _
      refine l_nil ?_
      refine k_then ?_
      have hok2 : (bsy 100 (l.take i ++ [x])).Ok (i + 1 + 1) := hbt.2 ▸ take_ok hok (i : Int) x
      rw [hbt.2]
      refine Pre.setB (t := 39) (c := false) rfl (hbt.1) ?_
      refine c_false rfl ?_
      refine c_skip ?_
      refine k_block ?_
      refine k_then ?_
      refine c_region _ rfl ?_
      refine l_q rfl (q_move rfl rfl) rfl rfl ?_
      refine l_q rfl (q_inc rfl rfl rfl (by omega)) rfl rfl ?_
      refine l_q rfl (q_assign rfl rfl) rfl rfl ?_
      refine l_nil ?_
      exact k_round ((i + 1, q2.1, q2.2)) (by dsimp only; omega) ⟨by omega, by rw [htk]; exact hok2⟩ (Sub.cons rfl (Sub.cons rfl (Sub.cons rfl (Sub.nil)))) (fun _ h => by rw [htk]; exact h)
    · try simp only [decide_eq_true_eq, decide_eq_false_iff_not, Bool.not_eq_true', Bool.not_eq_false'] at h1
      have hie : i = l.length := by omega
      subst hie
      rw [List.take_length] at hok ⊢
      have hdn := drop_bsy (ws := l) (c := 100) (by omega)
      have hdn1 : (dropL (bsy 100 l) 100).1 = rgn 0 (grp l) := congrArg Prod.fst hdn
      have hdn2 : (dropL (bsy 100 l) 100).2 = aft 0 l := congrArg Prod.snd hdn
      have hok3 : (aft 0 l).Ok (l.length + 1) := hdn2 ▸ drop_ok hok 100
      refine c_false rfl ?_
      refine c_exit ?_
      refine k_then_exit ?_
      refine k_then_exit ?_
      refine k_block_exit ?_
      refine k_then ?_
      refine c_seq ?_
      refine c_region _ rfl ?_
      refine l_q rfl (q_move rfl rfl) rfl rfl ?_
      refine pull2 ?_
      refine pull2 ?_
      refine pull2 ?_
      refine l_e rfl ?_
      refine e_call_34 (drop_spec hok (by omega) b vR vQ 100) rfl rfl rfl Try.call13 rfl (fun _ _ => trivial) ?_
      intro vin _
      refine l_q rfl (q_assign rfl rfl) rfl rfl ?_
      refine l_nil ?_
      refine k_then ?_
      refine c_seq ?_
      refine c_region _ rfl ?_
      refine l_q rfl (q_assign rfl rfl) rfl rfl ?_
      refine l_nil ?_
      refine k_then ?_
      refine c_seq ?_
      refine c_block ?_
      rw [hdn1, hdn2]
      refine c_loop4 (fun (a : Nat) (v : Value) (vR : Value) (vQ : Value) => [(0, va), (3, .pointer (some ⟨b, 0, none⟩)), (5, v), (6, .int .i64 (a : Int))]) (fun (a : Nat) (v : Value) (vR : Value) (vQ : Value) => St w [] (rowE v 3 (encI .i64) (rgn a (grp (l.drop a))) :: LT b vR vQ (aft a (l.drop a)))) (fun (a : Nat) (v : Value) (vR : Value) (vQ : Value) => a ≤ l.length ∧ (aft a (l.drop a)).Ok (l.length + 1)) (fun (a : Nat) (v : Value) (vR : Value) (vQ : Value) => l.length - a) (0) (vin.1) (vin.2.1) (vin.2.2) ⟨Nat.zero_le _, hok3⟩ (Sub.cons rfl (Sub.cons rfl (Sub.cons rfl (Sub.cons rfl (Sub.nil))))) (fun _ h => h) ?_
      intro a v vR vQ hp
      refine c_seq ?_
      refine c_seq ?_
      obtain ⟨ha, hok⟩ := hp
      refine c_region _ rfl ?_
      refine l_q rfl (q_move rfl rfl) rfl rfl ?_
      refine l_q rfl (q_move rfl rfl) rfl rfl ?_
      refine l_q rfl (q_lenV rfl Try.underlying22 rfl (fun _ h => hl.keep h (by simp [dom]))) rfl rfl ?_
      refine l_q rfl (q_lss rfl rfl rfl) rfl rfl ?_
      refine l_nil ?_
      refine k_then ?_
      refine Pre.caseB 45 rfl (fun h1 => ?_) (fun h1 => ?_)
      · try simp only [decide_eq_true_eq, decide_eq_false_iff_not, Bool.not_eq_true', Bool.not_eq_false'] at h1
        have hsl : (l.drop a).length = l.length - a := List.length_drop
        have hsn : l.drop a ≠ [] := fun e => by rw [e] at hsl; simp at hsl; omega
        have hgp := grp_pos hsn
        have hgl := grp_le (l.drop a)
        obtain ⟨x, hx⟩ : ∃ x, l[a]? = some x := ⟨_, List.getElem?_eq_getElem (by omega)⟩
        have hrl := rgn_len (grp (l.drop a)) a
        refine c_true rfl ?_
        refine c_skip ?_
        refine k_then ?_
        refine c_block ?_
        refine c_seq ?_
        refine c_region _ rfl ?_
        refine l_q rfl (q_assign rfl rfl) rfl rfl ?_
        refine l_nil ?_
        refine k_then ?_
        refine c_seq ?_
        refine c_block ?_
        refine c_loop1 (fun (n : Nat) => [(0, va), (3, .pointer (some ⟨b, 0, none⟩)), (5, v), (6, .int .i64 (a : Int)), (7, .int .i64 (n : Int))]) (fun (n : Nat) => St w [] (rowE v 3 (encI .i64) (rgn a (grp (l.drop a))) :: LT b vR vQ (aft a (l.drop a)))) (fun (n : Nat) => 1 ≤ n ∧ n ≤ grp (l.drop a)) (fun (n : Nat) => grp (l.drop a) - n) (1) ⟨Nat.le_refl _, hgp⟩ (Sub.cons rfl (Sub.cons rfl (Sub.cons rfl (Sub.cons rfl (Sub.cons rfl (Sub.nil)))))) (fun _ h => h) ?_
        intro n hp
        refine c_seq ?_
        refine c_seq ?_
        obtain ⟨hn1, hn2⟩ := hp
        refine c_region _ rfl ?_
        refine l_q rfl (q_move rfl rfl) rfl rfl ?_
        refine l_q rfl (q_move rfl rfl) rfl rfl ?_
        refine l_q rfl (q_indexV a rfl Try.underlying22 Try.sizeOf4 rfl (fun _ h => hl.keep h (by simp [dom])) rfl rfl (by omega)) rfl rfl ?_
        refine l_q rfl (q_loadV a 0 rfl Try.isAgg4 rfl rfl (fun _ h => hl.keep h (by simp [dom])) hx rfl) rfl rfl ?_
        refine l_q rfl (q_not rfl rfl) rfl rfl ?_
        refine l_q rfl (q_move rfl rfl) rfl rfl ?_
        refine Pre.caseB 51 rfl (fun h2 => ?_) (fun h2 => ?_)
        · try simp only [Bool.not_eq_true', Bool.not_eq_false'] at h2
          subst h2
          refine l_q rfl (q_move rfl rfl) rfl rfl ?_
          refine l_q rfl (q_move rfl rfl) rfl rfl ?_
          refine l_q rfl (q_add64 rfl rfl rfl (by omega)) rfl rfl ?_
          refine l_q rfl (q_move rfl rfl) rfl rfl ?_
          refine l_q rfl (q_lenV rfl Try.underlying22 rfl (fun _ h => hl.keep h (by simp [dom]))) rfl rfl ?_
          refine l_q rfl (q_lss rfl rfl rfl) rfl rfl ?_
          refine l_q rfl (q_pick_t rfl rfl rfl) rfl rfl ?_
          refine l_q rfl (q_move rfl rfl) rfl rfl ?_
          refine Pre.caseB 59 rfl (fun h3 => ?_) (fun h3 => ?_)
          · try simp only [decide_eq_true_eq, decide_eq_false_iff_not, Bool.not_eq_true', Bool.not_eq_false'] at h3
            obtain ⟨y, hy⟩ : ∃ y, l[a + n]? = some y := ⟨_, List.getElem?_eq_getElem (by omega)⟩
            refine l_q rfl (q_move rfl rfl) rfl rfl ?_
            refine l_q rfl (q_move rfl rfl) rfl rfl ?_
            refine l_q rfl (q_move rfl rfl) rfl rfl ?_
            refine l_q rfl (q_add64 rfl rfl rfl (by omega)) rfl rfl ?_
            refine l_q rfl (q_indexV (a + n) rfl Try.underlying22 Try.sizeOf4 rfl (fun _ h => hl.keep h (by simp [dom])) rfl (by omega) (by omega)) rfl rfl ?_
            refine l_q rfl (q_loadV (a + n) 0 rfl Try.isAgg4 rfl rfl (fun _ h => hl.keep h (by simp [dom])) hy rfl) rfl rfl ?_
            refine l_q rfl (q_not rfl rfl) rfl rfl ?_
            refine l_q rfl (q_pick_t rfl rfl rfl) rfl rfl ?_
            refine l_nil ?_
            refine k_then ?_
            refine Pre.caseB 67 rfl (fun h4 => ?_) (fun h4 => ?_)
            · try simp only [Bool.not_eq_true', Bool.not_eq_false'] at h4
              subst h4
              have hgo := grp_go hn2 hx hy
              refine c_true rfl ?_
              refine c_skip ?_
              refine k_then ?_
              refine c_block ?_
              refine c_region _ rfl ?_
              refine l_q rfl (q_move rfl rfl) rfl rfl ?_
              refine l_q rfl (q_inc rfl rfl rfl (by omega)) rfl rfl ?_
              refine l_q rfl (q_assign rfl rfl) rfl rfl ?_
              refine l_nil ?_
              refine k_block ?_
              exact k_round (n + 1) (by omega) ⟨by omega, by omega⟩ (Sub.cons rfl (Sub.cons rfl (Sub.cons rfl (Sub.cons rfl (Sub.cons rfl Sub.nil))))) (fun _ h => h)
            · try simp only [Bool.not_eq_true', Bool.not_eq_false'] at h4
              have hne : n = grp (l.drop a) := by
                rcases Nat.lt_or_ge n (grp (l.drop a)) with h | h
                · have hg := grp_at h hn1
                  rw [hy] at hg; rw [Option.some.inj hg.2] at h4; simp at h4
                · omega
              subst hne
              refine c_false rfl ?_
              refine c_exit ?_
              refine k_then_exit ?_
              refine k_then_exit ?_
              refine k_block_exit ?_
              refine k_then ?_
              refine c_seq ?_
              refine c_seq ?_
              refine c_region _ rfl ?_
              refine l_q rfl (q_move rfl rfl) rfl rfl ?_
              refine l_q rfl (q_lenV rfl Try.underlying27 rfl (fun _ h => h.rd 0 rfl)) rfl rfl ?_
              refine l_q rfl (q_move rfl rfl) rfl rfl ?_
              refine l_q rfl (q_neq rfl rfl rfl) rfl rfl ?_
              refine l_nil ?_
              refine k_then ?_
              refine Pre.setB (t := 73) (c := false) rfl (by simp [hrl]) ?_
              refine c_false rfl ?_
              refine c_skip ?_
              refine k_then ?_
              refine c_seq ?_
              refine c_seq ?_
              refine c_region _ rfl ?_
              refine l_q rfl (q_assign rfl rfl) rfl rfl ?_
              refine l_nil ?_
              refine k_then ?_
              refine c_block ?_
              refine c_loop1 (fun (j : Nat) => [(0, va), (3, .pointer (some ⟨b, 0, none⟩)), (5, v), (6, .int .i64 (a : Int)), (7, .int .i64 ((grp (l.drop a)) : Int)), (8, .int .i64 (j : Int))]) (fun (j : Nat) => St w [] (rowE v 3 (encI .i64) (rgn a (grp (l.drop a))) :: LT b vR vQ (aft a (l.drop a)))) (fun (j : Nat) => j ≤ grp (l.drop a)) (fun (j : Nat) => grp (l.drop a) - j) (0) (Nat.zero_le _) (Sub.cons rfl (Sub.cons rfl (Sub.cons rfl (Sub.cons rfl (Sub.cons rfl (Sub.cons rfl (Sub.nil))))))) (fun _ h => h) ?_
              intro j hjl
              refine c_seq ?_
              refine c_seq ?_
              refine c_region _ rfl ?_
              refine l_q rfl (q_move rfl rfl) rfl rfl ?_
              refine l_q rfl (q_move rfl rfl) rfl rfl ?_
              refine l_q rfl (q_lss rfl rfl rfl) rfl rfl ?_
              refine l_nil ?_
              refine k_then ?_
              refine Pre.caseB 76 rfl (fun h5 => ?_) (fun h5 => ?_)
              · try simp only [decide_eq_true_eq, decide_eq_false_iff_not, Bool.not_eq_true', Bool.not_eq_false'] at h5
                have hj : (rgn a (grp (l.drop a)))[j]? = some ((a + j : Nat) : Int) := rgn_get _ _ _ (by omega)
                refine c_true rfl ?_
                refine c_skip ?_
                refine k_then ?_
                refine c_seq ?_
                refine c_block ?_
                refine c_seq ?_
                refine c_region _ rfl ?_
                refine l_q rfl (q_move rfl rfl) rfl rfl ?_
                refine l_q rfl (q_move rfl rfl) rfl rfl ?_
                refine l_q rfl (q_indexV j rfl Try.underlying27 Try.sizeOf3 rfl (fun _ h => h.rd 0 rfl) rfl rfl (by omega)) rfl rfl ?_
                refine l_q rfl (q_loadV j 0 rfl Try.isAgg3 rfl rfl (fun _ h => h.rd 0 rfl) hj rfl) rfl rfl ?_
                refine l_q rfl (q_move rfl rfl) rfl rfl ?_
                refine l_q rfl (q_move rfl rfl) rfl rfl ?_
                refine l_q rfl (q_add64 rfl rfl rfl (by omega)) rfl rfl ?_
                refine l_q rfl (q_neq rfl rfl rfl) rfl rfl ?_
                refine l_nil ?_
                refine k_then ?_
                refine Pre.setB (t := 86) (c := false) rfl (by simp) ?_
                refine c_false rfl ?_
                refine c_skip ?_
                refine k_block ?_
                refine k_then ?_
                refine c_region _ rfl ?_
                refine l_q rfl (q_move rfl rfl) rfl rfl ?_
                refine l_q rfl (q_inc rfl rfl rfl (by omega)) rfl rfl ?_
                refine l_q rfl (q_assign rfl rfl) rfl rfl ?_
                refine l_nil ?_
                exact k_round (j + 1) (by omega) (by omega) (Sub.cons rfl (Sub.cons rfl (Sub.cons rfl (Sub.cons rfl (Sub.cons rfl (Sub.cons rfl (Sub.nil))))))) (fun _ h => h)
              · try simp only [decide_eq_true_eq, decide_eq_false_iff_not, Bool.not_eq_true', Bool.not_eq_false'] at h5
                refine drop0 ?_
                refine c_false rfl ?_
                refine c_exit ?_
                refine k_then_exit ?_
                refine k_then_exit ?_
                refine k_block_exit ?_
                refine k_then ?_
                refine c_seq ?_
                refine c_region _ rfl ?_
                refine l_q rfl (q_assign rfl rfl) rfl rfl ?_
                refine l_nil ?_
                refine k_then ?_
                refine c_seq ?_
                refine c_seq ?_
                refine c_region _ rfl ?_
                refine l_q rfl (q_assign rfl rfl) rfl rfl ?_
                refine l_nil ?_
                refine k_then ?_
                refine c_block ?_
                refine row0 3 (encI .i64) none ?_
                have hz0 := stp_zero (a := a) hsn
                refine c_loop4 (fun (j : Nat) (vn : Value) (vR2 : Value) (vQ2 : Value) => [(0, va), (3, .pointer (some ⟨b, 0, none⟩)), (6, .int .i64 (a : Int)), (7, .int .i64 ((grp (l.drop a)) : Int)), (9, vn), (10, .int .i64 (j : Int))]) (fun (j : Nat) (vn : Value) (vR2 : Value) (vQ2 : Value) => St w [] (rowE vn 3 (encI .i64) (stp a (l.drop a) j).1 :: LT b vR2 vQ2 (stp a (l.drop a) j).2)) (fun (j : Nat) (vn : Value) (vR2 : Value) (vQ2 : Value) => j ≤ grp (l.drop a) ∧ (stp a (l.drop a) j).2.Ok (l.length + 1)) (fun (j : Nat) (vn : Value) (vR2 : Value) (vQ2 : Value) => grp (l.drop a) - j) (0) (.slice none 0 0) (vR) (vQ) ⟨Nat.zero_le _, by rw [hz0]; exact hok⟩ (Sub.cons rfl (Sub.cons rfl (Sub.cons rfl (Sub.cons rfl (Sub.cons rfl (Sub.cons rfl (Sub.nil))))))) (fun _ h => by rw [hz0]; exact h) ?_
                intro j vn vR2 vQ2 hp
                refine c_seq ?_
                refine c_seq ?_
                obtain ⟨hjl, hok2⟩ := hp
                refine c_region _ rfl ?_
                refine l_q rfl (q_move rfl rfl) rfl rfl ?_
                refine l_q rfl (q_move rfl rfl) rfl rfl ?_
                refine l_q rfl (q_lss rfl rfl rfl) rfl rfl ?_
                refine l_nil ?_
                refine k_then ?_
                refine Pre.caseB 89 rfl (fun h6 => ?_) (fun h6 => ?_)
                · try simp only [decide_eq_true_eq, decide_eq_false_iff_not, Bool.not_eq_true', Bool.not_eq_false'] at h6
                  have hst := stp_succ (a := a) (s := l.drop a) (j := j) (by omega)
                  refine c_true rfl ?_
                  refine c_skip ?_
                  refine k_then ?_
                  refine c_seq ?_
                  refine c_block ?_
                  refine c_seq ?_
                  refine c_region _ rfl ?_
                  refine l_q rfl (q_move rfl rfl) rfl rfl ?_
                  refine l_q rfl (q_move rfl rfl) rfl rfl ?_
                  refine l_q rfl (q_move rfl rfl) rfl rfl ?_
                  refine l_q rfl (q_add64 rfl rfl rfl (by omega)) rfl rfl ?_
                  refine Pre.setV (t := 95) (c := .int .i64 ((a + j : Nat) : Int)) rfl (by congr 1) ?_
                  have hok3 : (stp a (l.drop a) (j + 1)).2.Ok (l.length + 1) := hst ▸ drop_ok hok2 ((a + j : Nat) : Int)
                  refine pull3 ?_
                  refine pull3 ?_
                  refine pull3 ?_
                  refine l_e rfl ?_
                  refine e_call_34 (drop_spec hok2 (by omega) b vR2 vQ2 ((a + j : Nat) : Int)) rfl rfl rfl Try.call13 rfl (fun _ _ => trivial) ?_
                  intro q3 _
                  refine l_q rfl (q_assign rfl rfl) rfl rfl ?_
                  refine l_nil ?_
                  refine k_then ?_
                  refine c_seq ?_
                  refine c_region _ rfl ?_
                  refine l_q rfl (q_move rfl rfl) rfl rfl ?_
                  refine l_q rfl (q_move rfl rfl) rfl rfl ?_
                  refine l_q rfl (q_sub64 rfl rfl rfl (by omega)) rfl rfl ?_
                  refine l_q rfl (q_lss rfl rfl rfl) rfl rfl ?_
                  refine l_q rfl (q_move rfl rfl) rfl rfl ?_
                  rw [hst]
                  refine pull4 ?_
                  refine drop0 ?_
                  refine Pre.caseB 101 rfl (fun h7 => ?_) (fun h7 => ?_)
                  · try simp only [decide_eq_true_eq, decide_eq_false_iff_not, Bool.not_eq_true', Bool.not_eq_false'] at h7
                    have hemp : (stp a (l.drop a) (j + 1)).1 = [] := by unfold stp; rw [if_neg (by omega)]
                    refine l_q rfl (q_move rfl rfl) rfl rfl ?_
                    refine l_q rfl (q_lenV rfl Try.underlying27 rfl (fun _ h => h.rd 0 rfl)) rfl rfl ?_
                    refine l_q rfl (q_gtr rfl rfl rfl) rfl rfl ?_
                    refine l_q rfl (q_pick_t rfl rfl rfl) rfl rfl ?_
                    refine l_nil ?_
                    refine k_then ?_
                    refine Pre.setB (t := 105) (c := false) rfl (by simp [hemp]) ?_
                    refine c_false rfl ?_
                    refine c_skip ?_
                    refine k_block ?_
                    refine k_then ?_
                    refine c_region _ rfl ?_
                    refine l_q rfl (q_move rfl rfl) rfl rfl ?_
                    refine l_q rfl (q_inc rfl rfl rfl (by omega)) rfl rfl ?_
                    refine l_q rfl (q_assign rfl rfl) rfl rfl ?_
                    refine l_nil ?_
                    refine pull3 ?_
                    refine pull3 ?_
                    refine pull3 ?_
                    refine pull3 ?_
                    refine pull3 ?_
                    refine pull3 ?_
                    refine pull3 ?_
                    refine pull3 ?_
                    exact k_round ((j + 1, q3.1, q3.2.1, q3.2.2)) (by dsimp only; omega) ⟨by omega, hok3⟩ (Sub.cons rfl (Sub.cons rfl (Sub.cons rfl (Sub.cons rfl (Sub.cons rfl (Sub.cons rfl (Sub.nil))))))) (fun _ h => h)
                  · try simp only [decide_eq_true_eq, decide_eq_false_iff_not, Bool.not_eq_true', Bool.not_eq_false'] at h7
                    refine l_not rfl rfl rfl ?_
                    refine l_not rfl rfl rfl ?_
                    refine l_not rfl rfl rfl ?_
                    refine l_q rfl (q_pick_f rfl rfl rfl) rfl rfl ?_
                    refine l_nil ?_
                    refine k_then ?_
                    refine c_false rfl ?_
                    refine c_skip ?_
                    refine k_block ?_
                    refine k_then ?_
                    refine c_region _ rfl ?_
                    refine l_q rfl (q_move rfl rfl) rfl rfl ?_
                    refine l_q rfl (q_inc rfl rfl rfl (by omega)) rfl rfl ?_
                    refine l_q rfl (q_assign rfl rfl) rfl rfl ?_
                    refine l_nil ?_
                    refine pull3 ?_
                    refine pull3 ?_
                    refine pull3 ?_
                    refine pull3 ?_
                    refine pull3 ?_
                    refine pull3 ?_
                    refine pull3 ?_
                    refine pull3 ?_
                    exact k_round ((j + 1, q3.1, q3.2.1, q3.2.2)) (by dsimp only; omega) ⟨by omega, hok3⟩ (Sub.cons rfl (Sub.cons rfl (Sub.cons rfl (Sub.cons rfl (Sub.cons rfl (Sub.cons rfl (Sub.nil))))))) (fun _ h => h)
                · try simp only [decide_eq_true_eq, decide_eq_false_iff_not, Bool.not_eq_true', Bool.not_eq_false'] at h6
                  have hje : j = grp (l.drop a) := by omega
                  subst hje
                  have hfin : stp a (l.drop a) (grp (l.drop a)) = (rgn (a + grp (l.drop a)) (grp (l.drop (a + grp (l.drop a)))), aft (a + grp (l.drop a)) (l.drop (a + grp (l.drop a)))) := by
                    unfold stp; rw [if_pos rfl, List.drop_drop]
                  rw [hfin] at hok2 ⊢
                  refine c_false rfl ?_
                  refine c_exit ?_
                  refine k_then_exit ?_
                  refine k_then_exit ?_
                  refine k_block_exit ?_
                  refine k_then ?_
                  refine c_seq ?_
                  refine c_region _ rfl ?_
                  refine l_q rfl (q_move rfl rfl) rfl rfl ?_
                  refine l_q rfl (q_assign rfl rfl) rfl rfl ?_
                  refine l_nil ?_
                  refine k_then ?_
                  refine c_region _ rfl ?_
                  refine l_q rfl (q_move rfl rfl) rfl rfl ?_
                  refine l_q rfl (q_move rfl rfl) rfl rfl ?_
                  refine l_q rfl (q_add64 rfl rfl rfl (by omega)) rfl rfl ?_
                  refine l_q rfl (q_assign rfl rfl) rfl rfl ?_
                  refine l_nil ?_
                  refine k_block ?_
                  exact k_round ((a + grp (l.drop a), vn, vR2, vQ2)) (by dsimp only; omega) ⟨by omega, hok2⟩ (Sub.cons rfl (Sub.cons rfl (Sub.cons rfl (Sub.cons rfl (Sub.nil))))) (fun _ h => h)
          · try simp only [decide_eq_true_eq, decide_eq_false_iff_not, Bool.not_eq_true', Bool.not_eq_false'] at h3
            have hne : n = grp (l.drop a) := by
              rcases Nat.lt_or_ge n (grp (l.drop a)) with h | h
              · have hg := grp_at h hn1
                have := (List.getElem?_eq_some_iff.1 hg.2).1; omega
              · omega
            subst hne
            refine l_not rfl rfl rfl ?_
            refine l_not rfl rfl rfl ?_
            refine l_not rfl rfl rfl ?_
            refine l_not rfl rfl rfl ?_
            refine l_not rfl rfl rfl ?_
            refine l_not rfl rfl rfl ?_
            refine l_not rfl rfl rfl ?_
            refine l_q rfl (q_pick_f rfl rfl rfl) rfl rfl ?_
            refine l_nil ?_
            refine k_then ?_
            refine c_false rfl ?_
            refine c_exit ?_
            refine k_then_exit ?_
            refine k_then_exit ?_
            refine k_block_exit ?_
            refine k_then ?_
            refine c_seq ?_
            refine c_seq ?_
            refine c_region _ rfl ?_
            refine l_q rfl (q_move rfl rfl) rfl rfl ?_
            refine l_q rfl (q_lenV rfl Try.underlying27 rfl (fun _ h => h.rd 0 rfl)) rfl rfl ?_
            refine l_q rfl (q_move rfl rfl) rfl rfl ?_
            refine l_q rfl (q_neq rfl rfl rfl) rfl rfl ?_
            refine l_nil ?_
            refine k_then ?_
            refine Pre.setB (t := 73) (c := false) rfl (by simp [hrl]) ?_
            refine c_false rfl ?_
            refine c_skip ?_
            refine k_then ?_
            refine c_seq ?_
            refine c_seq ?_
            refine c_region _ rfl ?_
            refine l_q rfl (q_assign rfl rfl) rfl rfl ?_
            refine l_nil ?_
            refine k_then ?_
            refine c_block ?_
            refine c_loop1 (fun (j : Nat) => [(0, va), (3, .pointer (some ⟨b, 0, none⟩)), (5, v), (6, .int .i64 (a : Int)), (7, .int .i64 ((grp (l.drop a)) : Int)), (8, .int .i64 (j : Int))]) (fun (j : Nat) => St w [] (rowE v 3 (encI .i64) (rgn a (grp (l.drop a))) :: LT b vR vQ (aft a (l.drop a)))) (fun (j : Nat) => j ≤ grp (l.drop a)) (fun (j : Nat) => grp (l.drop a) - j) (0) (Nat.zero_le _) (Sub.cons rfl (Sub.cons rfl (Sub.cons rfl (Sub.cons rfl (Sub.cons rfl (Sub.cons rfl (Sub.nil))))))) (fun _ h => h) ?_
            intro j hjl
            refine c_seq ?_
            refine c_seq ?_
            refine c_region _ rfl ?_
            refine l_q rfl (q_move rfl rfl) rfl rfl ?_
            refine l_q rfl (q_move rfl rfl) rfl rfl ?_
            refine l_q rfl (q_lss rfl rfl rfl) rfl rfl ?_
            refine l_nil ?_
            refine k_then ?_
            refine Pre.caseB 76 rfl (fun h5 => ?_) (fun h5 => ?_)
            · try simp only [decide_eq_true_eq, decide_eq_false_iff_not, Bool.not_eq_true', Bool.not_eq_false'] at h5
              have hj : (rgn a (grp (l.drop a)))[j]? = some ((a + j : Nat) : Int) := rgn_get _ _ _ (by omega)
              refine c_true rfl ?_
              refine c_skip ?_
              refine k_then ?_
              refine c_seq ?_
              refine c_block ?_
              refine c_seq ?_
              refine c_region _ rfl ?_
              refine l_q rfl (q_move rfl rfl) rfl rfl ?_
              refine l_q rfl (q_move rfl rfl) rfl rfl ?_
              refine l_q rfl (q_indexV j rfl Try.underlying27 Try.sizeOf3 rfl (fun _ h => h.rd 0 rfl) rfl rfl (by omega)) rfl rfl ?_
              refine l_q rfl (q_loadV j 0 rfl Try.isAgg3 rfl rfl (fun _ h => h.rd 0 rfl) hj rfl) rfl rfl ?_
              refine l_q rfl (q_move rfl rfl) rfl rfl ?_
              refine l_q rfl (q_move rfl rfl) rfl rfl ?_
              refine l_q rfl (q_add64 rfl rfl rfl (by omega)) rfl rfl ?_
              refine l_q rfl (q_neq rfl rfl rfl) rfl rfl ?_
              refine l_nil ?_
              refine k_then ?_
              refine Pre.setB (t := 86) (c := false) rfl (by simp) ?_
              refine c_false rfl ?_
              refine c_skip ?_
              refine k_block ?_
              refine k_then ?_
              refine c_region _ rfl ?_
              refine l_q rfl (q_move rfl rfl) rfl rfl ?_
              refine l_q rfl (q_inc rfl rfl rfl (by omega)) rfl rfl ?_
              refine l_q rfl (q_assign rfl rfl) rfl rfl ?_
              refine l_nil ?_
              exact k_round (j + 1) (by omega) (by omega) (Sub.cons rfl (Sub.cons rfl (Sub.cons rfl (Sub.cons rfl (Sub.cons rfl (Sub.cons rfl (Sub.nil))))))) (fun _ h => h)
            · try simp only [decide_eq_true_eq, decide_eq_false_iff_not, Bool.not_eq_true', Bool.not_eq_false'] at h5
              refine drop0 ?_
              refine c_false rfl ?_
              refine c_exit ?_
              refine k_then_exit ?_
              refine k_then_exit ?_
              refine k_block_exit ?_
              refine k_then ?_
              refine c_seq ?_
              refine c_region _ rfl ?_
              refine l_q rfl (q_assign rfl rfl) rfl rfl ?_
              refine l_nil ?_
              refine k_then ?_
              refine c_seq ?_
              refine c_seq ?_
              refine c_region _ rfl ?_
              refine l_q rfl (q_assign rfl rfl) rfl rfl ?_
              refine l_nil ?_
              refine k_then ?_
              refine c_block ?_
              refine row0 3 (encI .i64) none ?_
              have hz0 := stp_zero (a := a) hsn
              refine c_loop4 (fun (j : Nat) (vn : Value) (vR2 : Value) (vQ2 : Value) => [(0, va), (3, .pointer (some ⟨b, 0, none⟩)), (6, .int .i64 (a : Int)), (7, .int .i64 ((grp (l.drop a)) : Int)), (9, vn), (10, .int .i64 (j : Int))]) (fun (j : Nat) (vn : Value) (vR2 : Value) (vQ2 : Value) => St w [] (rowE vn 3 (encI .i64) (stp a (l.drop a) j).1 :: LT b vR2 vQ2 (stp a (l.drop a) j).2)) (fun (j : Nat) (vn : Value) (vR2 : Value) (vQ2 : Value) => j ≤ grp (l.drop a) ∧ (stp a (l.drop a) j).2.Ok (l.length + 1)) (fun (j : Nat) (vn : Value) (vR2 : Value) (vQ2 : Value) => grp (l.drop a) - j) (0) (.slice none 0 0) (vR) (vQ) ⟨Nat.zero_le _, by rw [hz0]; exact hok⟩ (Sub.cons rfl (Sub.cons rfl (Sub.cons rfl (Sub.cons rfl (Sub.cons rfl (Sub.cons rfl (Sub.nil))))))) (fun _ h => by rw [hz0]; exact h) ?_
              intro j vn vR2 vQ2 hp
              refine c_seq ?_
              refine c_seq ?_
              obtain ⟨hjl, hok2⟩ := hp
              refine c_region _ rfl ?_
              refine l_q rfl (q_move rfl rfl) rfl rfl ?_
              refine l_q rfl (q_move rfl rfl) rfl rfl ?_
              refine l_q rfl (q_lss rfl rfl rfl) rfl rfl ?_
              refine l_nil ?_
              refine k_then ?_
              refine Pre.caseB 89 rfl (fun h6 => ?_) (fun h6 => ?_)
              · try simp only [decide_eq_true_eq, decide_eq_false_iff_not, Bool.not_eq_true', Bool.not_eq_false'] at h6
                have hst := stp_succ (a := a) (s := l.drop a) (j := j) (by omega)
                refine c_true rfl ?_
                refine c_skip ?_
                refine k_then ?_
                refine c_seq ?_
                refine c_block ?_
                refine c_seq ?_
                refine c_region _ rfl ?_
                refine l_q rfl (q_move rfl rfl) rfl rfl ?_
                refine l_q rfl (q_move rfl rfl) rfl rfl ?_
                refine l_q rfl (q_move rfl rfl) rfl rfl ?_
                refine l_q rfl (q_add64 rfl rfl rfl (by omega)) rfl rfl ?_
                refine Pre.setV (t := 95) (c := .int .i64 ((a + j : Nat) : Int)) rfl (by congr 1) ?_
                have hok3 : (stp a (l.drop a) (j + 1)).2.Ok (l.length + 1) := hst ▸ drop_ok hok2 ((a + j : Nat) : Int)
                refine pull3 ?_
                refine pull3 ?_
                refine pull3 ?_
                refine l_e rfl ?_
                refine e_call_34 (drop_spec hok2 (by omega) b vR2 vQ2 ((a + j : Nat) : Int)) rfl rfl rfl Try.call13 rfl (fun _ _ => trivial) ?_
                intro q4 _
                refine l_q rfl (q_assign rfl rfl) rfl rfl ?_
                refine l_nil ?_
                refine k_then ?_
                refine c_seq ?_
                refine c_region _ rfl ?_
                refine l_q rfl (q_move rfl rfl) rfl rfl ?_
                refine l_q rfl (q_move rfl rfl) rfl rfl ?_
                refine l_q rfl (q_sub64 rfl rfl rfl (by omega)) rfl rfl ?_
                refine l_q rfl (q_lss rfl rfl rfl) rfl rfl ?_
                refine l_q rfl (q_move rfl rfl) rfl rfl ?_
                rw [hst]
                refine pull4 ?_
                refine drop0 ?_
                refine Pre.caseB 101 rfl (fun h7 => ?_) (fun h7 => ?_)
                · try simp only [decide_eq_true_eq, decide_eq_false_iff_not, Bool.not_eq_true', Bool.not_eq_false'] at h7
                  have hemp : (stp a (l.drop a) (j + 1)).1 = [] := by unfold stp; rw [if_neg (by omega)]
                  refine l_q rfl (q_move rfl rfl) rfl rfl ?_
                  refine l_q rfl (q_lenV rfl Try.underlying27 rfl (fun _ h => h.rd 0 rfl)) rfl rfl ?_
                  refine l_q rfl (q_gtr rfl rfl rfl) rfl rfl ?_
                  refine l_q rfl (q_pick_t rfl rfl rfl) rfl rfl ?_
                  refine l_nil ?_
                  refine k_then ?_
                  refine Pre.setB (t := 105) (c := false) rfl (by simp [hemp]) ?_
                  refine c_false rfl ?_
                  refine c_skip ?_
                  refine k_block ?_
                  refine k_then ?_
                  refine c_region _ rfl ?_
                  refine l_q rfl (q_move rfl rfl) rfl rfl ?_
                  refine l_q rfl (q_inc rfl rfl rfl (by omega)) rfl rfl ?_
                  refine l_q rfl (q_assign rfl rfl) rfl rfl ?_
                  refine l_nil ?_
                  refine pull3 ?_
                  refine pull3 ?_
                  refine pull3 ?_
                  refine pull3 ?_
                  refine pull3 ?_
                  refine pull3 ?_
                  refine pull3 ?_
                  refine pull3 ?_
                  exact k_round ((j + 1, q4.1, q4.2.1, q4.2.2)) (by dsimp only; omega) ⟨by omega, hok3⟩ (Sub.cons rfl (Sub.cons rfl (Sub.cons rfl (Sub.cons rfl (Sub.cons rfl (Sub.cons rfl (Sub.nil))))))) (fun _ h => h)
                · try simp only [decide_eq_true_eq, decide_eq_false_iff_not, Bool.not_eq_true', Bool.not_eq_false'] at h7
                  refine l_not rfl rfl rfl ?_
                  refine l_not rfl rfl rfl ?_
                  refine l_not rfl rfl rfl ?_
                  refine l_q rfl (q_pick_f rfl rfl rfl) rfl rfl ?_
                  refine l_nil ?_
                  refine k_then ?_
                  refine c_false rfl ?_
                  refine c_skip ?_
                  refine k_block ?_
                  refine k_then ?_
                  refine c_region _ rfl ?_
                  refine l_q rfl (q_move rfl rfl) rfl rfl ?_
                  refine l_q rfl (q_inc rfl rfl rfl (by omega)) rfl rfl ?_
                  refine l_q rfl (q_assign rfl rfl) rfl rfl ?_
                  refine l_nil ?_
                  refine pull3 ?_
                  refine pull3 ?_
                  refine pull3 ?_
                  refine pull3 ?_
                  refine pull3 ?_
                  refine pull3 ?_
                  refine pull3 ?_
                  refine pull3 ?_
                  exact k_round ((j + 1, q4.1, q4.2.1, q4.2.2)) (by dsimp only; omega) ⟨by omega, hok3⟩ (Sub.cons rfl (Sub.cons rfl (Sub.cons rfl (Sub.cons rfl (Sub.cons rfl (Sub.cons rfl (Sub.nil))))))) (fun _ h => h)
              · try simp only [decide_eq_true_eq, decide_eq_false_iff_not, Bool.not_eq_true', Bool.not_eq_false'] at h6
                have hje : j = grp (l.drop a) := by omega
                subst hje
                have hfin : stp a (l.drop a) (grp (l.drop a)) = (rgn (a + grp (l.drop a)) (grp (l.drop (a + grp (l.drop a)))), aft (a + grp (l.drop a)) (l.drop (a + grp (l.drop a)))) := by
                  unfold stp; rw [if_pos rfl, List.drop_drop]
                rw [hfin] at hok2 ⊢
                refine c_false rfl ?_
                refine c_exit ?_
                refine k_then_exit ?_
                refine k_then_exit ?_
                refine k_block_exit ?_
                refine k_then ?_
                refine c_seq ?_
                refine c_region _ rfl ?_
                refine l_q rfl (q_move rfl rfl) rfl rfl ?_
                refine l_q rfl (q_assign rfl rfl) rfl rfl ?_
                refine l_nil ?_
                refine k_then ?_
                refine c_region _ rfl ?_
                refine l_q rfl (q_move rfl rfl) rfl rfl ?_
                refine l_q rfl (q_move rfl rfl) rfl rfl ?_
                refine l_q rfl (q_add64 rfl rfl rfl (by omega)) rfl rfl ?_
                refine l_q rfl (q_assign rfl rfl) rfl rfl ?_
                refine l_nil ?_
                refine k_block ?_
                exact k_round ((a + grp (l.drop a), vn, vR2, vQ2)) (by dsimp only; omega) ⟨by omega, hok2⟩ (Sub.cons rfl (Sub.cons rfl (Sub.cons rfl (Sub.cons rfl (Sub.nil))))) (fun _ h => h)
        · try simp only [Bool.not_eq_true', Bool.not_eq_false'] at h2
          have hne : n = grp (l.drop a) := by
            rcases Nat.lt_or_ge n (grp (l.drop a)) with h | h
            · have hg := grp_at h hn1
              rw [hx] at hg; rw [Option.some.inj hg.1] at h2; simp at h2
            · omega
          subst hne
          refine l_not rfl rfl rfl ?_
          refine l_not rfl rfl rfl ?_
          refine l_not rfl rfl rfl ?_
          refine l_not rfl rfl rfl ?_
          refine l_not rfl rfl rfl ?_
          refine l_not rfl rfl rfl ?_
          refine l_q rfl (q_pick_f rfl rfl rfl) rfl rfl ?_
          refine l_q rfl (q_move rfl rfl) rfl rfl ?_
          refine l_not rfl rfl rfl ?_
          refine l_not rfl rfl rfl ?_
          refine l_not rfl rfl rfl ?_
          refine l_not rfl rfl rfl ?_
          refine l_not rfl rfl rfl ?_
          refine l_not rfl rfl rfl ?_
          refine l_not rfl rfl rfl ?_
          refine l_q rfl (q_pick_f rfl rfl rfl) rfl rfl ?_
          refine l_nil ?_
          refine k_then ?_
          refine c_false rfl ?_
          refine c_exit ?_
          refine k_then_exit ?_
          refine k_then_exit ?_
          refine k_block_exit ?_
          refine k_then ?_
          refine c_seq ?_
          refine c_seq ?_
          refine c_region _ rfl ?_
          refine l_q rfl (q_move rfl rfl) rfl rfl ?_
          refine l_q rfl (q_lenV rfl Try.underlying27 rfl (fun _ h => h.rd 0 rfl)) rfl rfl ?_
          refine l_q rfl (q_move rfl rfl) rfl rfl ?_
          refine l_q rfl (q_neq rfl rfl rfl) rfl rfl ?_
          refine l_nil ?_
          refine k_then ?_
          refine Pre.setB (t := 73) (c := false) rfl (by simp [hrl]) ?_
          refine c_false rfl ?_
          refine c_skip ?_
          refine k_then ?_
          refine c_seq ?_
          refine c_seq ?_
          refine c_region _ rfl ?_
          refine l_q rfl (q_assign rfl rfl) rfl rfl ?_
          refine l_nil ?_
          refine k_then ?_
          refine c_block ?_
          refine c_loop1 (fun (j : Nat) => [(0, va), (3, .pointer (some ⟨b, 0, none⟩)), (5, v), (6, .int .i64 (a : Int)), (7, .int .i64 ((grp (l.drop a)) : Int)), (8, .int .i64 (j : Int))]) (fun (j : Nat) => St w [] (rowE v 3 (encI .i64) (rgn a (grp (l.drop a))) :: LT b vR vQ (aft a (l.drop a)))) (fun (j : Nat) => j ≤ grp (l.drop a)) (fun (j : Nat) => grp (l.drop a) - j) (0) (Nat.zero_le _) (Sub.cons rfl (Sub.cons rfl (Sub.cons rfl (Sub.cons rfl (Sub.cons rfl (Sub.cons rfl (Sub.nil))))))) (fun _ h => h) ?_
          intro j hjl
          refine c_seq ?_
          refine c_seq ?_
          refine c_region _ rfl ?_
          refine l_q rfl (q_move rfl rfl) rfl rfl ?_
          refine l_q rfl (q_move rfl rfl) rfl rfl ?_
          refine l_q rfl (q_lss rfl rfl rfl) rfl rfl ?_
          refine l_nil ?_
          refine k_then ?_
          refine Pre.caseB 76 rfl (fun h5 => ?_) (fun h5 => ?_)
          · try simp only [decide_eq_true_eq, decide_eq_false_iff_not, Bool.not_eq_true', Bool.not_eq_false'] at h5
            have hj : (rgn a (grp (l.drop a)))[j]? = some ((a + j : Nat) : Int) := rgn_get _ _ _ (by omega)
            refine c_true rfl ?_
            refine c_skip ?_
            refine k_then ?_
            refine c_seq ?_
            refine c_block ?_
            refine c_seq ?_
            refine c_region _ rfl ?_
            refine l_q rfl (q_move rfl rfl) rfl rfl ?_
            refine l_q rfl (q_move rfl rfl) rfl rfl ?_
            refine l_q rfl (q_indexV j rfl Try.underlying27 Try.sizeOf3 rfl (fun _ h => h.rd 0 rfl) rfl rfl (by omega)) rfl rfl ?_
            refine l_q rfl (q_loadV j 0 rfl Try.isAgg3 rfl rfl (fun _ h => h.rd 0 rfl) hj rfl) rfl rfl ?_
            refine l_q rfl (q_move rfl rfl) rfl rfl ?_
            refine l_q rfl (q_move rfl rfl) rfl rfl ?_
            refine l_q rfl (q_add64 rfl rfl rfl (by omega)) rfl rfl ?_
            refine l_q rfl (q_neq rfl rfl rfl) rfl rfl ?_
            refine l_nil ?_
            refine k_then ?_
            refine Pre.setB (t := 86) (c := false) rfl (by simp) ?_
            refine c_false rfl ?_
            refine c_skip ?_
            refine k_block ?_
            refine k_then ?_
            refine c_region _ rfl ?_
            refine l_q rfl (q_move rfl rfl) rfl rfl ?_
            refine l_q rfl (q_inc rfl rfl rfl (by omega)) rfl rfl ?_
            refine l_q rfl (q_assign rfl rfl) rfl rfl ?_
            refine l_nil ?_
            exact k_round (j + 1) (by omega) (by omega) (Sub.cons rfl (Sub.cons rfl (Sub.cons rfl (Sub.cons rfl (Sub.cons rfl (Sub.cons rfl (Sub.nil))))))) (fun _ h => h)
          · try simp only [decide_eq_true_eq, decide_eq_false_iff_not, Bool.not_eq_true', Bool.not_eq_false'] at h5
            refine drop0 ?_
            refine c_false rfl ?_
            refine c_exit ?_
            refine k_then_exit ?_
            refine k_then_exit ?_
            refine k_block_exit ?_
            refine k_then ?_
            refine c_seq ?_
            refine c_region _ rfl ?_
            refine l_q rfl (q_assign rfl rfl) rfl rfl ?_
            refine l_nil ?_
            refine k_then ?_
            refine c_seq ?_
            refine c_seq ?_
            refine c_region _ rfl ?_
            refine l_q rfl (q_assign rfl rfl) rfl rfl ?_
            refine l_nil ?_
            refine k_then ?_
            refine c_block ?_
            refine row0 3 (encI .i64) none ?_
            have hz0 := stp_zero (a := a) hsn
            refine c_loop4 (fun (j : Nat) (vn : Value) (vR2 : Value) (vQ2 : Value) => [(0, va), (3, .pointer (some ⟨b, 0, none⟩)), (6, .int .i64 (a : Int)), (7, .int .i64 ((grp (l.drop a)) : Int)), (9, vn), (10, .int .i64 (j : Int))]) (fun (j : Nat) (vn : Value) (vR2 : Value) (vQ2 : Value) => St w [] (rowE vn 3 (encI .i64) (stp a (l.drop a) j).1 :: LT b vR2 vQ2 (stp a (l.drop a) j).2)) (fun (j : Nat) (vn : Value) (vR2 : Value) (vQ2 : Value) => j ≤ grp (l.drop a) ∧ (stp a (l.drop a) j).2.Ok (l.length + 1)) (fun (j : Nat) (vn : Value) (vR2 : Value) (vQ2 : Value) => grp (l.drop a) - j) (0) (.slice none 0 0) (vR) (vQ) ⟨Nat.zero_le _, by rw [hz0]; exact hok⟩ (Sub.cons rfl (Sub.cons rfl (Sub.cons rfl (Sub.cons rfl (Sub.cons rfl (Sub.cons rfl (Sub.nil))))))) (fun _ h => by rw [hz0]; exact h) ?_
            intro j vn vR2 vQ2 hp
            refine c_seq ?_
            refine c_seq ?_
            obtain ⟨hjl, hok2⟩ := hp
            refine c_region _ rfl ?_
            refine l_q rfl (q_move rfl rfl) rfl rfl ?_
            refine l_q rfl (q_move rfl rfl) rfl rfl ?_
            refine l_q rfl (q_lss rfl rfl rfl) rfl rfl ?_
            refine l_nil ?_
            refine k_then ?_
            refine Pre.caseB 89 rfl (fun h6 => ?_) (fun h6 => ?_)
            · try simp only [decide_eq_true_eq, decide_eq_false_iff_not, Bool.not_eq_true', Bool.not_eq_false'] at h6
              have hst := stp_succ (a := a) (s := l.drop a) (j := j) (by omega)
              refine c_true rfl ?_
              refine c_skip ?_
              refine k_then ?_
              refine c_seq ?_
              refine c_block ?_
              refine c_seq ?_
              refine c_region _ rfl ?_
              refine l_q rfl (q_move rfl rfl) rfl rfl ?_
              refine l_q rfl (q_move rfl rfl) rfl rfl ?_
              refine l_q rfl (q_move rfl rfl) rfl rfl ?_
              refine l_q rfl (q_add64 rfl rfl rfl (by omega)) rfl rfl ?_
              refine Pre.setV (t := 95) (c := .int .i64 ((a + j : Nat) : Int)) rfl (by congr 1) ?_
              have hok3 : (stp a (l.drop a) (j + 1)).2.Ok (l.length + 1) := hst ▸ drop_ok hok2 ((a + j : Nat) : Int)
              refine pull3 ?_
              refine pull3 ?_
              refine pull3 ?_
              refine l_e rfl ?_
              refine e_call_34 (drop_spec hok2 (by omega) b vR2 vQ2 ((a + j : Nat) : Int)) rfl rfl rfl Try.call13 rfl (fun _ _ => trivial) ?_
              intro q5 _
              refine l_q rfl (q_assign rfl rfl) rfl rfl ?_
              refine l_nil ?_
              refine k_then ?_
              refine c_seq ?_
              refine c_region _ rfl ?_
              refine l_q rfl (q_move rfl rfl) rfl rfl ?_
              refine l_q rfl (q_move rfl rfl) rfl rfl ?_
              refine l_q rfl (q_sub64 rfl rfl rfl (by omega)) rfl rfl ?_
              refine l_q rfl (q_lss rfl rfl rfl) rfl rfl ?_
              refine l_q rfl (q_move rfl rfl) rfl rfl ?_
              rw [hst]
              refine pull4 ?_
              refine drop0 ?_
              refine Pre.caseB 101 rfl (fun h7 => ?_) (fun h7 => ?_)
              · try simp only [decide_eq_true_eq, decide_eq_false_iff_not, Bool.not_eq_true', Bool.not_eq_false'] at h7
                have hemp : (stp a (l.drop a) (j + 1)).1 = [] := by unfold stp; rw [if_neg (by omega)]
                refine l_q rfl (q_move rfl rfl) rfl rfl ?_
                refine l_q rfl (q_lenV rfl Try.underlying27 rfl (fun _ h => h.rd 0 rfl)) rfl rfl ?_
                refine l_q rfl (q_gtr rfl rfl rfl) rfl rfl ?_
                refine l_q rfl (q_pick_t rfl rfl rfl) rfl rfl ?_
                refine l_nil ?_
                refine k_then ?_
                refine Pre.setB (t := 105) (c := false) rfl (by simp [hemp]) ?_
                refine c_false rfl ?_
                refine c_skip ?_
                refine k_block ?_
                refine k_then ?_
                refine c_region _ rfl ?_
                refine l_q rfl (q_move rfl rfl) rfl rfl ?_
                refine l_q rfl (q_inc rfl rfl rfl (by omega)) rfl rfl ?_
                refine l_q rfl (q_assign rfl rfl) rfl rfl ?_
                refine l_nil ?_
                refine pull3 ?_
                refine pull3 ?_
                refine pull3 ?_
                refine pull3 ?_
                refine pull3 ?_
                refine pull3 ?_
                refine pull3 ?_
                refine pull3 ?_
                exact k_round ((j + 1, q5.1, q5.2.1, q5.2.2)) (by dsimp only; omega) ⟨by omega, hok3⟩ (Sub.cons rfl (Sub.cons rfl (Sub.cons rfl (Sub.cons rfl (Sub.cons rfl (Sub.cons rfl (Sub.nil))))))) (fun _ h => h)
              · try simp only [decide_eq_true_eq, decide_eq_false_iff_not, Bool.not_eq_true', Bool.not_eq_false'] at h7
                refine l_not rfl rfl rfl ?_
                refine l_not rfl rfl rfl ?_
                refine l_not rfl rfl rfl ?_
                refine l_q rfl (q_pick_f rfl rfl rfl) rfl rfl ?_
                refine l_nil ?_
                refine k_then ?_
                refine c_false rfl ?_
                refine c_skip ?_
                refine k_block ?_
                refine k_then ?_
                refine c_region _ rfl ?_
                refine l_q rfl (q_move rfl rfl) rfl rfl ?_
                refine l_q rfl (q_inc rfl rfl rfl (by omega)) rfl rfl ?_
                refine l_q rfl (q_assign rfl rfl) rfl rfl ?_
                refine l_nil ?_
                refine pull3 ?_
                refine pull3 ?_
                refine pull3 ?_
                refine pull3 ?_
                refine pull3 ?_
                refine pull3 ?_
                refine pull3 ?_
                refine pull3 ?_
                exact k_round ((j + 1, q5.1, q5.2.1, q5.2.2)) (by dsimp only; omega) ⟨by omega, hok3⟩ (Sub.cons rfl (Sub.cons rfl (Sub.cons rfl (Sub.cons rfl (Sub.cons rfl (Sub.cons rfl (Sub.nil))))))) (fun _ h => h)
            · try simp only [decide_eq_true_eq, decide_eq_false_iff_not, Bool.not_eq_true', Bool.not_eq_false'] at h6
              have hje : j = grp (l.drop a) := by omega
              subst hje
              have hfin : stp a (l.drop a) (grp (l.drop a)) = (rgn (a + grp (l.drop a)) (grp (l.drop (a + grp (l.drop a)))), aft (a + grp (l.drop a)) (l.drop (a + grp (l.drop a)))) := by
                unfold stp; rw [if_pos rfl, List.drop_drop]
              rw [hfin] at hok2 ⊢
              refine c_false rfl ?_
              refine c_exit ?_
              refine k_then_exit ?_
              refine k_then_exit ?_
              refine k_block_exit ?_
              refine k_then ?_
              refine c_seq ?_
              refine c_region _ rfl ?_
              refine l_q rfl (q_move rfl rfl) rfl rfl ?_
              refine l_q rfl (q_assign rfl rfl) rfl rfl ?_
              refine l_nil ?_
              refine k_then ?_
              refine c_region _ rfl ?_
              refine l_q rfl (q_move rfl rfl) rfl rfl ?_
              refine l_q rfl (q_move rfl rfl) rfl rfl ?_
              refine l_q rfl (q_add64 rfl rfl rfl (by omega)) rfl rfl ?_
              refine l_q rfl (q_assign rfl rfl) rfl rfl ?_
              refine l_nil ?_
              refine k_block ?_
              exact k_round ((a + grp (l.drop a), vn, vR2, vQ2)) (by dsimp only; omega) ⟨by omega, hok2⟩ (Sub.cons rfl (Sub.cons rfl (Sub.cons rfl (Sub.cons rfl (Sub.nil))))) (fun _ h => h)
      · try simp only [decide_eq_true_eq, decide_eq_false_iff_not, Bool.not_eq_true', Bool.not_eq_false'] at h1
        have hae : a = l.length := by omega
        subst hae
        rw [List.drop_length] at hok ⊢
        refine c_false rfl ?_
        refine c_exit ?_
        refine k_then_exit ?_
        refine k_then_exit ?_
        refine k_block_exit ?_
        refine k_then ?_
        refine c_seq ?_
        refine c_region _ rfl ?_
        refine l_q rfl (q_move rfl rfl) rfl rfl ?_
        refine l_q rfl (q_lenV rfl Try.underlying27 rfl (fun _ h => h.rd 0 rfl)) rfl rfl ?_
        refine l_q rfl (q_eql rfl rfl rfl) rfl rfl ?_
        refine l_q rfl (q_move rfl rfl) rfl rfl ?_
        refine Pre.setB (t := 113) (c := true) rfl (rfl) ?_
        refine l_q rfl (q_move rfl rfl) rfl rfl ?_
        refine pull3 ?_
        refine pull3 ?_
        refine pull3 ?_
        refine l_e rfl ?_
        refine e_call_33 (idle_spec hok (by omega) b vR vQ ) rfl rfl rfl Try.call14 rfl (fun _ _ => trivial) ?_
        intro _ _
        refine l_q rfl (q_pick_t rfl rfl rfl) rfl rfl ?_
        refine l_q rfl (q_move rfl rfl) rfl rfl ?_
        refine Pre.setB (t := 117) (c := true) rfl (rfl) ?_
        refine l_e rfl ?_
        refine e_call_00 (awake_spec) rfl rfl rfl Try.call11 rfl (fun _ _ => trivial) ?_
        intro _ _
        refine l_q rfl (q_pick_t rfl rfl rfl) rfl rfl ?_
        refine l_q rfl (q_assign rfl rfl) rfl rfl ?_
        refine l_nil ?_
        refine k_then ?_
        refine c_ret ?_
        refine r_one rfl rfl ?_
        exact fun _ h => ⟨(), rfl, trivial, h.nothing⟩
theorem latchRow_walk (w : World) (A0 : Option Addr) (c0 : Nat) (z0 : List Bool) (rd0 : Rd w w.heap.size A0 (z0.map .bool)) (l0 : z0.length ≤ c0) (m0 : c0 ≤ maxLen) :
    Calls Try.prog 3 #[.slice A0 z0.length c0] w fun e w' => e = .returned (.bool true) ∧ Below w.heap.size w w' := by
  have f0 := flat_one' encB Value.bool (fun _ => rfl) z0
  rw [← f0] at rd0
  exact con_walk (row_spec z0) (rdv_of rd0 l0)
end Go.Proofs.Ytlakembncfkimaa
