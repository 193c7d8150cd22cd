/- LatchDowns, walked -/
import Derived.Test.YtlakembncfkimaaF
import Derived.Test.YtlakembncfkimaaQ
import Derived.Test.YtlakembncfkimaaS9
set_option linter.unusedVariables false
set_option linter.unusedSimpArgs false
namespace Go.Proofs.Ytlakembncfkimaa
open Go.Sep Go.RowKit

set_option maxRecDepth 100000 in
set_option maxHeartbeats 1000000 in
theorem downs_spec {va : Value} (l : List Bool) : Con Try.prog 8 [va] (fun w => RdV w va encB l) [] (fun _ : Unit => .bool true) (fun _ => True) (fun _ => []) := by
  intro w hl hH
  refine enter (n := 96) (vs := [va]) (St w [] []) Try.func8 rfl rfl rfl (St.init hH) ?_
  refine c_seq ?_
  refine c_region _ rfl ?_
  refine l_q rfl (q_assign rfl rfl) rfl rfl ?_
  refine l_nil ?_
  refine k_then ?_
  refine c_seq ?_
  refine c_region _ rfl ?_
  refine l_e rfl ?_
  refine e_call_03 (new_spec) rfl rfl rfl Try.call10 rfl (fun _ _ => trivial) ?_
  intro b _
  refine l_q rfl (q_assign rfl rfl) rfl rfl ?_
  refine l_nil ?_
  refine k_then ?_
  refine c_seq ?_
  refine c_seq ?_
  refine c_region _ rfl ?_
  refine l_q rfl (q_move rfl rfl) rfl rfl ?_
  refine l_q rfl (q_eqp rfl Try.underlying23 rfl rfl) rfl rfl ?_
  refine l_q rfl (q_move rfl rfl) rfl rfl ?_
  refine Pre.setB (t := 11) (c := false) rfl (rfl) ?_
  refine l_q rfl (q_move rfl rfl) rfl rfl ?_
  refine l_q rfl (q_lenV rfl Try.underlying22 rfl (fun _ h => hl.keep h (by simp [dom]))) rfl rfl ?_
  refine l_q rfl (q_gtr rfl rfl rfl) rfl rfl ?_
  refine l_q rfl (q_pick_f rfl rfl rfl) rfl rfl ?_
  refine l_nil ?_
  refine k_then ?_
  refine Pre.caseB 15 rfl (fun h20 => ?_) (fun h20 => ?_)
  · try simp only [decide_eq_true_eq, decide_eq_false_iff_not, Bool.not_eq_true', Bool.not_eq_false'] at h20
    refine c_true rfl ?_
    refine c_seq ?_
    refine c_region _ rfl ?_
    refine l_q rfl (q_move rfl rfl) rfl rfl ?_
    refine l_q rfl (q_nep rfl Try.underlying23 rfl rfl) rfl rfl ?_
    refine l_q rfl (q_move rfl rfl) rfl rfl ?_
    refine Pre.setB (t := 18) (c := true) rfl (rfl) ?_
    refine l_e rfl ?_
    refine e_call_00 (awake_spec) rfl rfl rfl Try.call11 rfl (fun _ _ => trivial) ?_
    intro _ _
    refine l_q rfl (q_pick_t rfl rfl rfl) rfl rfl ?_
    refine l_q rfl (q_assign rfl rfl) rfl rfl ?_
    refine l_nil ?_
    refine k_then ?_
    refine c_ret ?_
    refine k_then_ret ?_
    refine r_one rfl rfl ?_
    exact fun _ h => ⟨(), rfl, trivial, h.nothing⟩
  · try simp only [decide_eq_true_eq, decide_eq_false_iff_not, Bool.not_eq_true', Bool.not_eq_false'] at h20
    have hbn := bsy_new 50
    refine c_false rfl ?_
    refine c_skip ?_
    refine k_then ?_
    refine c_seq ?_
    refine c_seq ?_
    refine c_region _ rfl ?_
    refine l_q rfl (q_move rfl rfl) rfl rfl ?_
    refine pull2 ?_
    refine pull2 ?_
    refine pull2 ?_
    refine l_e rfl ?_
    refine e_call_33 (take_spec new_ok (by omega) b (.slice none 0 0) (.slice none 0 0) 50 true) rfl rfl rfl Try.call12 rfl (fun _ _ => trivial) ?_
    intro q1 _
    refine l_q rfl (q_not rfl rfl) rfl rfl ?_
    refine l_nil ?_
    refine k_then ?_
    have hk0 : (bsy 50 []).Ok 1 := hbn.2 ▸ take_ok new_ok 50 true
    have hbn2 : takeL newL 50 true = bsy 50 [] := hbn.2
    rw [hbn2]
    refine Pre.setB (t := 23) (c := false) rfl (by rw [show tryB newL 50 true = true from hbn.1]; rfl) ?_
    refine c_false rfl ?_
    refine c_skip ?_
    refine k_then ?_
    refine c_seq ?_
    refine c_region _ rfl ?_
    refine l_q rfl (q_assign rfl rfl) rfl rfl ?_
    refine l_nil ?_
    refine k_then ?_
    refine c_seq ?_
    refine c_seq ?_
    refine c_region _ rfl ?_
    refine l_q rfl (q_assign rfl rfl) rfl rfl ?_
    refine l_nil ?_
    refine k_then ?_
    refine c_block ?_
    refine c_loop3 (fun (i : Nat) (vR : Value) (vQ : Value) => [(0, va), (3, .pointer (some ⟨b, 0, none⟩)), (4, .int .i64 (lead (l.take i) : Int)), (5, .int .i64 (i : Int))]) (fun (i : Nat) (vR : Value) (vQ : Value) => St w [] (LT b vR vQ (bsy 50 (l.take i)))) (fun (i : Nat) (vR : Value) (vQ : Value) => i ≤ l.length ∧ (bsy 50 (l.take i)).Ok (i + 1)) (fun (i : Nat) (vR : Value) (vQ : Value) => l.length - i) (0) (q1.1) (q1.2) ⟨Nat.zero_le _, hk0⟩ (Sub.cons rfl (Sub.cons rfl (Sub.cons rfl (Sub.cons rfl (Sub.nil))))) (fun _ h => h) ?_
    intro i vR vQ hp
    refine c_seq ?_
    refine c_seq ?_
    obtain ⟨hi, hok⟩ := hp
    refine c_region _ rfl ?_
    refine l_q rfl (q_move rfl rfl) rfl rfl ?_
    refine l_q rfl (q_move rfl rfl) rfl rfl ?_
    refine l_q rfl (q_lenV rfl Try.underlying22 rfl (fun _ h => hl.keep h (by simp [dom]))) rfl rfl ?_
    refine l_q rfl (q_lss rfl rfl rfl) rfl rfl ?_
    refine l_nil ?_
    refine k_then ?_
    refine Pre.caseB 27 rfl (fun h1 => ?_) (fun h1 => ?_)
    · try simp only [decide_eq_true_eq, decide_eq_false_iff_not, Bool.not_eq_true', Bool.not_eq_false'] at h1
      obtain ⟨x, hx⟩ : ∃ x, l[i]? = some x := ⟨_, List.getElem?_eq_getElem (by omega)⟩
      have htl : (l.take i).length = i := by rw [List.length_take]; omega
      have hll := lead_le (l.take i)
      have hbt := bsy_take (c := 50) (ws := l.take i) (b := x) (by omega)
      have hsn := lead_snoc (l.take i) x
      rw [htl] at hbt hsn
      have htk : l.take (i + 1) = l.take i ++ [x] := by rw [List.take_add_one, hx]; rfl
      refine c_true rfl ?_
      refine c_skip ?_
      refine k_then ?_
      refine c_seq ?_
      refine c_block ?_
      refine c_seq ?_
      refine c_region _ rfl ?_
      refine l_q rfl (q_move rfl rfl) rfl rfl ?_
      refine l_q rfl (q_move rfl rfl) rfl rfl ?_
      refine l_q rfl (q_move rfl rfl) rfl rfl ?_
      refine l_q rfl (q_move rfl rfl) rfl rfl ?_
      refine l_q rfl (q_indexV i rfl Try.underlying22 Try.sizeOf4 rfl (fun _ h => hl.keep h (by simp [dom])) rfl rfl (by omega)) rfl rfl ?_
      refine l_q rfl (q_loadV i 0 rfl Try.isAgg4 rfl rfl (fun _ h => hl.keep h (by simp [dom])) hx rfl) rfl rfl ?_
      refine pull2 ?_
      refine pull2 ?_
      refine pull2 ?_
      refine l_e rfl ?_
      refine e_call_33 (take_spec hok (by omega) b vR vQ (i : Int) x) rfl rfl rfl Try.call12 rfl (fun _ _ => trivial) ?_
      intro q2 _
      refine l_nil ?_
      refine k_then ?_
      refine c_seq ?_
      refine c_region _ rfl ?_
      refine l_q rfl (q_move rfl rfl) rfl rfl ?_
      refine l_q rfl (q_move rfl rfl) rfl rfl ?_
      refine l_q rfl (q_eql rfl rfl rfl) rfl rfl ?_
      refine l_q rfl (q_move rfl rfl) rfl rfl ?_
      have hok2 : (bsy 50 (l.take i ++ [x])).Ok (i + 1 + 1) := hbt.2 ▸ take_ok hok (i : Int) x
      rw [hbt.2]
      refine Pre.caseB 40 rfl (fun h2 => ?_) (fun h2 => ?_)
      · try simp only [decide_eq_true_eq, decide_eq_false_iff_not, Bool.not_eq_true', Bool.not_eq_false'] at h2
        refine l_q rfl (q_move rfl rfl) rfl rfl ?_
        refine l_q rfl (q_move rfl rfl) rfl rfl ?_
        refine l_q rfl (q_indexV i rfl Try.underlying22 Try.sizeOf4 rfl (fun _ h => hl.keep h (by simp [dom])) rfl rfl (by omega)) rfl rfl ?_
        refine l_q rfl (q_loadV i 0 rfl Try.isAgg4 rfl rfl (fun _ h => hl.keep h (by simp [dom])) hx rfl) rfl rfl ?_
        refine l_q rfl (q_not rfl rfl) rfl rfl ?_
        refine l_q rfl (q_pick_t rfl rfl rfl) rfl rfl ?_
        refine l_nil ?_
        refine k_then ?_
        refine Pre.caseB 46 rfl (fun h3 => ?_) (fun h3 => ?_)
        · try simp only [Bool.not_eq_true', Bool.not_eq_false'] at h3
          have hld : lead (l.take (i + 1)) = lead (l.take i) + 1 := by rw [htk, hsn, if_pos ⟨by omega, by simpa using h3⟩]
          refine c_true rfl ?_
          refine c_region _ rfl ?_
          refine l_q rfl (q_move rfl rfl) rfl rfl ?_
          refine l_q rfl (q_inc rfl rfl rfl (by omega)) rfl rfl ?_
          refine l_q rfl (q_assign rfl rfl) rfl rfl ?_
          refine l_nil ?_
          refine k_block ?_
          refine k_then ?_
          refine c_region _ rfl ?_
          refine l_q rfl (q_move rfl rfl) rfl rfl ?_
          refine l_q rfl (q_inc rfl rfl rfl (by omega)) rfl rfl ?_
          refine l_q rfl (q_assign rfl rfl) rfl rfl ?_
          refine l_nil ?_
          exact k_round ((i + 1, q2.1, q2.2)) (by dsimp only; omega) ⟨by omega, by rw [htk]; exact hok2⟩ (Sub.cons rfl (Sub.cons rfl (Sub.consE rfl (by rw [hld]) (Sub.cons rfl Sub.nil)))) (fun _ h => by rw [htk]; exact h)
        · try simp only [Bool.not_eq_true', Bool.not_eq_false'] at h3
          have hld : lead (l.take (i + 1)) = lead (l.take i) := by rw [htk, hsn, if_neg (fun hh => by rw [hh.2] at h3; simp at h3)]
          refine c_false rfl ?_
          refine c_skip ?_
          refine k_block ?_
          refine k_then ?_
          refine c_region _ rfl ?_
          refine l_q rfl (q_move rfl rfl) rfl rfl ?_
          refine l_q rfl (q_inc rfl rfl rfl (by omega)) rfl rfl ?_
          refine l_q rfl (q_assign rfl rfl) rfl rfl ?_
          refine l_nil ?_
          exact k_round ((i + 1, q2.1, q2.2)) (by dsimp only; omega) ⟨by omega, by rw [htk]; exact hok2⟩ (Sub.cons rfl (Sub.cons rfl (Sub.consE rfl (by rw [hld]) (Sub.cons rfl Sub.nil)))) (fun _ h => by rw [htk]; exact h)
      · try simp only [decide_eq_true_eq, decide_eq_false_iff_not, Bool.not_eq_true', Bool.not_eq_false'] at h2
        have hld : lead (l.take (i + 1)) = lead (l.take i) := by rw [htk, hsn, if_neg (fun hh => h2 (by omega))]
        refine l_not rfl rfl rfl ?_
        refine l_not rfl rfl rfl ?_
        refine l_not rfl rfl rfl ?_
        refine l_not rfl rfl rfl ?_
        refine l_not rfl rfl rfl ?_
        refine l_q rfl (q_pick_f rfl rfl rfl) rfl rfl ?_
        refine l_nil ?_
        refine k_then ?_
        refine c_false rfl ?_
        refine c_skip ?_
        refine k_block ?_
        refine k_then ?_
        refine c_region _ rfl ?_
        refine l_q rfl (q_move rfl rfl) rfl rfl ?_
        refine l_q rfl (q_inc rfl rfl rfl (by omega)) rfl rfl ?_
        refine l_q rfl (q_assign rfl rfl) rfl rfl ?_
        refine l_nil ?_
        exact k_round ((i + 1, q2.1, q2.2)) (by dsimp only; omega) ⟨by omega, by rw [htk]; exact hok2⟩ (Sub.cons rfl (Sub.cons rfl (Sub.consE rfl (by rw [hld]) (Sub.cons rfl Sub.nil)))) (fun _ h => by rw [htk]; exact h)
    · try simp only [decide_eq_true_eq, decide_eq_false_iff_not, Bool.not_eq_true', Bool.not_eq_false'] at h1
      have hie : i = l.length := by omega
      subst hie
      rw [List.take_length] at hok ⊢
      have hdn := down_bsy (ws := l) (c := 50) (by omega)
      have hll := lead_le l
      have hdn1 : (downL (bsy 50 l) 50).1 = rgn 0 (lead l) := congrArg Prod.fst hdn
      have hdn2 : (downL (bsy 50 l) 50).2 = ⟨0, rgn 0 (lead l) ++ [50], -1, wq (lead l) (l.drop (lead l))⟩ := congrArg Prod.snd hdn
      have hok3 : La.Ok ⟨0, rgn 0 (lead l) ++ [50], -1, wq (lead l) (l.drop (lead l))⟩ (l.length + 1) := hdn2 ▸ down_ok hok 50
      refine c_false rfl ?_
      refine c_exit ?_
      refine k_then_exit ?_
      refine k_then_exit ?_
      refine k_block_exit ?_
      refine k_then ?_
      refine c_seq ?_
      refine c_region _ rfl ?_
      refine l_q rfl (q_move rfl rfl) rfl rfl ?_
      refine pull2 ?_
      refine pull2 ?_
      refine pull2 ?_
      refine l_e rfl ?_
      refine e_call_34 (down_spec hok (by omega) b vR vQ 50) rfl rfl rfl Try.call20 rfl (fun _ _ => trivial) ?_
      intro vin _
      refine l_q rfl (q_assign rfl rfl) rfl rfl ?_
      refine l_nil ?_
      refine k_then ?_
      refine c_seq ?_
      refine c_seq ?_
      refine c_region _ rfl ?_
      refine l_q rfl (q_move rfl rfl) rfl rfl ?_
      refine l_q rfl (q_lenV rfl Try.underlying27 rfl (fun _ h => h.rd 0 rfl)) rfl rfl ?_
      refine l_q rfl (q_move rfl rfl) rfl rfl ?_
      refine l_q rfl (q_neq rfl rfl rfl) rfl rfl ?_
      refine l_q rfl (q_move rfl rfl) rfl rfl ?_
      rw [hdn1, hdn2]
      have hrl := rgn_len (lead l) 0
      have hwl := wq_len (l.drop (lead l)) (lead l)
      have hdl : (l.drop (lead l)).length = l.length - lead l := List.length_drop
      have hd3 : (downL ⟨0, rgn 0 (lead l) ++ [50], -1, wq (lead l) (l.drop (lead l))⟩ 50).1 = [] := congrArg Prod.fst (down_no (show (-1 : Int) ≠ 50 by decide))
      refine Pre.setB (t := 55) (c := false) rfl (by first | (simp [hrl]; done) | (simp [hrl, hwl, hdl]; omega) | (simp [hd3]; done)) ?_
      refine l_q rfl (q_move rfl rfl) rfl rfl ?_
      refine pull3 ?_
      refine pull3 ?_
      refine pull3 ?_
      refine l_e rfl ?_
      refine e_call_34 (readers_spec hok3 (by omega) b vin.2.1 vin.2.2) rfl rfl rfl Try.call16 rfl (fun _ _ => trivial) ?_
      intro q3 _
      refine l_q rfl (q_lenV rfl Try.underlying27 rfl (fun _ h => h.rd 0 rfl)) rfl rfl ?_
      refine l_q rfl (q_move rfl rfl) rfl rfl ?_
      refine l_q rfl (q_inc rfl rfl rfl (by omega)) rfl rfl ?_
      refine l_q rfl (q_neq rfl rfl rfl) rfl rfl ?_
      refine l_q rfl (q_pick_f rfl rfl rfl) rfl rfl ?_
      refine l_q rfl (q_move rfl rfl) rfl rfl ?_
      refine Pre.setB (t := 63) (c := false) rfl (by first | (simp [hrl]; done) | (simp [hrl, hwl, hdl]; omega) | (simp [hd3]; done)) ?_
      refine l_q rfl (q_move rfl rfl) rfl rfl ?_
      refine pull3 ?_
      refine pull3 ?_
      refine pull3 ?_
      refine l_e rfl ?_
      refine e_call_33 (writer_spec hok3 (by omega) b vin.2.1 vin.2.2 ) rfl rfl rfl Try.call15 rfl (fun _ _ => trivial) ?_
      intro _ _
      refine l_q rfl (q_neq rfl rfl rfl) rfl rfl ?_
      refine l_q rfl (q_pick_f rfl rfl rfl) rfl rfl ?_
      refine l_q rfl (q_move rfl rfl) rfl rfl ?_
      refine Pre.setB (t := 68) (c := false) rfl (by first | (simp [hrl]; done) | (simp [hrl, hwl, hdl]; omega) | (simp [hd3]; done)) ?_
      refine l_q rfl (q_move rfl rfl) rfl rfl ?_
      refine pull2 ?_
      refine pull2 ?_
      refine pull2 ?_
      refine l_e rfl ?_
      refine e_call_34 (queue_spec hok3 (by omega) b vin.2.1 vin.2.2) rfl rfl rfl Try.call17 rfl (fun _ _ => trivial) ?_
      intro q4 _
      refine l_q rfl (q_lenV rfl Try.underlying33 rfl (fun _ h => h.rd 0 rfl)) rfl rfl ?_
      refine l_q rfl (q_move rfl rfl) rfl rfl ?_
      refine l_q rfl (q_lenV rfl Try.underlying22 rfl (fun _ h => hl.keep h (by simp [dom]))) rfl rfl ?_
      refine l_q rfl (q_move rfl rfl) rfl rfl ?_
      refine l_q rfl (q_sub64 rfl rfl rfl (by omega)) rfl rfl ?_
      refine l_q rfl (q_neq rfl rfl rfl) rfl rfl ?_
      refine l_q rfl (q_pick_f rfl rfl rfl) rfl rfl ?_
      refine l_q rfl (q_move rfl rfl) rfl rfl ?_
      refine Pre.setB (t := 78) (c := false) rfl (by first | (simp [hrl]; done) | (simp [hrl, hwl, hdl]; omega) | (simp [hd3]; done)) ?_
      refine l_q rfl (q_move rfl rfl) rfl rfl ?_
      refine pull3 ?_
      refine pull3 ?_
      refine pull3 ?_
      refine l_e rfl ?_
      refine e_call_34 (down_spec hok3 (by omega) b vin.2.1 vin.2.2 50) rfl rfl rfl Try.call20 rfl (fun _ _ => trivial) ?_
      intro q5 _
      refine l_q rfl (q_lenV rfl Try.underlying27 rfl (fun _ h => h.rd 0 rfl)) rfl rfl ?_
      refine l_q rfl (q_neq rfl rfl rfl) rfl rfl ?_
      refine l_q rfl (q_pick_f rfl rfl rfl) rfl rfl ?_
      refine l_nil ?_
      refine k_then ?_
      refine Pre.setB (t := 83) (c := false) rfl (by first | (simp [hrl]; done) | (simp [hrl, hwl, hdl]; omega) | (simp [hd3]; done)) ?_
      refine c_false rfl ?_
      refine c_skip ?_
      refine k_then ?_
      refine c_seq ?_
      refine c_seq ?_
      refine c_region _ rfl ?_
      refine l_q rfl (q_assign rfl rfl) rfl rfl ?_
      refine l_nil ?_
      refine k_then ?_
      refine c_block ?_
      refine c_loop1 (fun (j : Nat) => [(3, .pointer (some ⟨b, 0, none⟩)), (4, .int .i64 (lead l : Int)), (6, vin.1), (7, .int .i64 (j : Int))]) (fun (j : Nat) => St w [] [rowE vin.1 3 (encI .i64) (rgn 0 (lead l))]) (fun (j : Nat) => j ≤ lead l) (fun (j : Nat) => lead l - j) (0) (Nat.zero_le _) (Sub.cons rfl (Sub.cons rfl (Sub.cons rfl (Sub.cons rfl (Sub.nil))))) (fun _ h => h.sublist (by simp)) ?_
      intro j hjl
      refine c_seq ?_
      refine c_seq ?_
      refine c_region _ rfl ?_
      refine l_q rfl (q_move rfl rfl) rfl rfl ?_
      refine l_q rfl (q_move rfl rfl) rfl rfl ?_
      refine l_q rfl (q_lss rfl rfl rfl) rfl rfl ?_
      refine l_nil ?_
      refine k_then ?_
      refine Pre.caseB 86 rfl (fun h5 => ?_) (fun h5 => ?_)
      · try simp only [decide_eq_true_eq, decide_eq_false_iff_not, Bool.not_eq_true', Bool.not_eq_false'] at h5
        have hj : (rgn 0 (lead l))[j]? = some ((j : Nat) : Int) := by rw [rgn_get _ _ _ (by omega), Nat.zero_add]
        refine c_true rfl ?_
        refine c_skip ?_
        refine k_then ?_
        refine c_seq ?_
        refine c_block ?_
        refine c_seq ?_
        refine c_region _ rfl ?_
        refine l_q rfl (q_move rfl rfl) rfl rfl ?_
        refine l_q rfl (q_move rfl rfl) rfl rfl ?_
        refine l_q rfl (q_indexV j rfl Try.underlying27 Try.sizeOf3 rfl (fun _ h => h.rd 0 rfl) rfl rfl (by omega)) rfl rfl ?_
        refine l_q rfl (q_loadV j 0 rfl Try.isAgg3 rfl rfl (fun _ h => h.rd 0 rfl) hj rfl) rfl rfl ?_
        refine l_q rfl (q_move rfl rfl) rfl rfl ?_
        refine l_q rfl (q_neq rfl rfl rfl) rfl rfl ?_
        refine l_nil ?_
        refine k_then ?_
        refine Pre.setB (t := 94) (c := false) rfl (by simp) ?_
        refine c_false rfl ?_
        refine c_skip ?_
        refine k_block ?_
        refine k_then ?_
        refine c_region _ rfl ?_
        refine l_q rfl (q_move rfl rfl) rfl rfl ?_
        refine l_q rfl (q_inc rfl rfl rfl (by omega)) rfl rfl ?_
        refine l_q rfl (q_assign rfl rfl) rfl rfl ?_
        refine l_nil ?_
        exact k_round (j + 1) (by omega) (by omega) (Sub.cons rfl (Sub.cons rfl (Sub.cons rfl (Sub.cons rfl (Sub.nil))))) (fun _ h => h)
      · try simp only [decide_eq_true_eq, decide_eq_false_iff_not, Bool.not_eq_true', Bool.not_eq_false'] at h5
        refine c_false rfl ?_
        refine c_exit ?_
        refine k_then_exit ?_
        refine k_then_exit ?_
        refine k_block_exit ?_
        refine k_then ?_
        refine c_seq ?_
        refine c_region _ rfl ?_
        refine l_e rfl ?_
        refine e_call_00 (awake_spec) rfl rfl rfl Try.call11 rfl (fun _ _ => trivial) ?_
        intro _ _
        refine l_q rfl (q_assign rfl rfl) rfl rfl ?_
        refine l_nil ?_
        refine k_then ?_
        refine c_ret ?_
        refine r_one rfl rfl ?_
        exact fun _ h => ⟨(), rfl, trivial, h.nothing⟩
theorem latchDowns_walk (w : World) (A0 : Option Addr) (c0 : Nat) (z0 : List Bool) (rd0 : Rd w w.heap.size A0 (z0.map .bool)) (l0 : z0.length ≤ c0) (m0 : c0 ≤ maxLen) :
    Calls Try.prog 8 #[.slice A0 z0.length c0] w fun e w' => e = .returned (.bool true) ∧ Below w.heap.size w w' := by
  have f0 := flat_one' encB Value.bool (fun _ => rfl) z0
  rw [← f0] at rd0
  exact con_walk (downs_spec z0) (rdv_of rd0 l0)
end Go.Proofs.Ytlakembncfkimaa
