/- slices: Insert, Delete, Clone -/
import Derived.Test.YtlakembncfkimaaA
set_option linter.unusedVariables false
set_option linter.unusedSimpArgs false
namespace Go.Proofs.Ytlakembncfkimaa
open Go.Sep Go.RowKit

set_option maxRecDepth 100000 in
set_option maxHeartbeats 1000000 in
theorem clone_spec {va : Value} (l : List Int) (hn : l.length ≤ 65536) : Con Try.prog 40 [va] (fun w => RdV w va (encI .i64) l) [] (fun v : Value => v) (fun _ => True) (fun v => [rowE v 3 (encI .i64) l]) := by
  intro w hl hH
  obtain ⟨a, c, rfl⟩ := rd_sl hl
  refine enter (n := 8) (vs := [.slice a l.length c]) (St w [] []) Try.func40 rfl rfl rfl (St.init hH) ?_
  refine c_seq ?_
  refine c_region _ rfl ?_
  refine l_q rfl (q_assign rfl rfl) rfl rfl ?_
  refine l_nil ?_
  refine k_then ?_
  refine c_seq ?_
  refine c_seq ?_
  refine c_region _ rfl ?_
  refine l_q rfl (q_move rfl rfl) rfl rfl ?_
  refine l_q rfl (q_eqsl rfl Try.underlying27 rfl rfl) rfl rfl ?_
  refine l_nil ?_
  refine k_then ?_
  refine Pre.caseB 4 rfl (fun hn => ?_) (fun hn => ?_)
  · rw [Option.isNone_iff_eq_none] at hn
    subst hn
    have hl0 := rd_none hl
    subst hl0
    refine c_true rfl ?_
    refine c_seq ?_
    refine c_region _ rfl ?_
    refine l_q rfl (q_assign rfl rfl) rfl rfl ?_
    refine l_nil ?_
    refine k_then ?_
    refine c_ret ?_
    refine k_then_ret ?_
    refine row0 3 (encI .i64) none ?_
    refine r_one rfl rfl ?_
    exact fun _ h => ⟨_, rfl, trivial, h⟩
  · refine c_false rfl ?_
    refine c_skip ?_
    refine k_then ?_
    refine c_seq ?_
    refine c_region _ rfl ?_
    refine l_e rfl ?_
    refine e_buildSliceV (sz := 1) [] rfl rfl rfl rfl rfl Try.underlying27 Try.sizeOf3 rfl Try.zeroValue3 rfl ?_
    intro b
    refine rowLit (encI .i64) [] rfl rfl ?_
    refine l_q rfl (q_move rfl rfl) rfl rfl ?_
    refine l_e rfl ?_
    refine e_append rfl rfl rfl Try.underlying27 Try.underlying27 info3 rfl rfl rfl rfl rfl (fun _ h => hl.keep h (by simp)) (by simp only [byt3, List.length_append, List.length_cons, List.length_nil]; omega) (by simp only [List.length_append, List.length_cons, List.length_nil]; omega) ?_
    intro v
    refine l_q rfl (q_assign rfl rfl) rfl rfl ?_
    refine l_nil ?_
    refine k_then ?_
    refine c_ret ?_
    rw [List.nil_append]
    refine r_one rfl rfl ?_
    exact fun _ h => ⟨v, rfl, trivial, h⟩
set_option maxRecDepth 100000 in
set_option maxHeartbeats 1000000 in
theorem clonew_spec {va : Value} (l : List Wt) (hn : l.length ≤ 65536) : Con Try.prog 41 [va] (fun w => RdV w va encW l) [] (fun v : Value => v) (fun _ => True) (fun v => [rowE v 41 encW l]) := by
  intro w hl hH
  obtain ⟨a, c, rfl⟩ := rd_sl hl
  refine enter (n := 8) (vs := [.slice a l.length c]) (St w [] []) Try.func41 rfl rfl rfl (St.init hH) ?_
  refine c_seq ?_
  refine c_region _ rfl ?_
  refine l_q rfl (q_assign rfl rfl) rfl rfl ?_
  refine l_nil ?_
  refine k_then ?_
  refine c_seq ?_
  refine c_seq ?_
  refine c_region _ rfl ?_
  refine l_q rfl (q_move rfl rfl) rfl rfl ?_
  refine l_q rfl (q_eqsl rfl Try.underlying33 rfl rfl) rfl rfl ?_
  refine l_nil ?_
  refine k_then ?_
  refine Pre.caseB 4 rfl (fun hn => ?_) (fun hn => ?_)
  · rw [Option.isNone_iff_eq_none] at hn
    subst hn
    have hl0 := rd_none hl
    subst hl0
    refine c_true rfl ?_
    refine c_seq ?_
    refine c_region _ rfl ?_
    refine l_q rfl (q_assign rfl rfl) rfl rfl ?_
    refine l_nil ?_
    refine k_then ?_
    refine c_ret ?_
    refine k_then_ret ?_
    refine row0 41 encW none ?_
    refine r_one rfl rfl ?_
    exact fun _ h => ⟨_, rfl, trivial, h⟩
  · refine c_false rfl ?_
    refine c_skip ?_
    refine k_then ?_
    refine c_seq ?_
    refine c_region _ rfl ?_
    refine l_e rfl ?_
    refine e_buildSliceV (sz := 2) [] rfl rfl rfl rfl rfl Try.underlying33 Try.sizeOf41 rfl Try.zeroValue41 rfl ?_
    intro b
    refine rowLit encW [] rfl rfl ?_
    refine l_q rfl (q_move rfl rfl) rfl rfl ?_
    refine l_e rfl ?_
    refine e_append rfl rfl rfl Try.underlying33 Try.underlying33 info41 rfl rfl rfl rfl rfl (fun _ h => hl.keep h (by simp)) (by simp only [byt41, List.length_append, List.length_cons, List.length_nil]; omega) (by simp only [List.length_append, List.length_cons, List.length_nil]; omega) ?_
    intro v
    refine l_q rfl (q_assign rfl rfl) rfl rfl ?_
    refine l_nil ?_
    refine k_then ?_
    refine c_ret ?_
    rw [List.nil_append]
    refine r_one rfl rfl ?_
    exact fun _ h => ⟨v, rfl, trivial, h⟩
theorem ov_find : Extern.find Try.f55 = some (Extern.SlicesOverlaps.overlaps #[27, 27] #[4]) := by kernel_rfl
theorem st_ne {w0 w : World} {D : List Nat} {a b : Nat} {T U : TypeId} {cs us : List Value} {H : List Ent} {h : St w0 D (cellsE a T cs :: cellsE b U us :: H) w} : a ≠ b := by
  have := h.hp.nodup
  intro e
  subst e
  simp [Sep.dom, cellsE] at this
theorem drop_1 {n : Nat} {L : Env} {w0 : World} {D : List Nat} {a b : Ent} {F : Act → World → Prop} (k : Pre n L (St w0 D [a]) F) : Pre n L (St w0 D [a, b]) F := k.world _ (fun _ s => s.sublist (by simp))
theorem drop_2 {n : Nat} {L : Env} {w0 : World} {D : List Nat} {a b c : Ent} {F : Act → World → Prop} (k : Pre n L (St w0 D [a]) F) : Pre n L (St w0 D [a, b, c]) F := k.world _ (fun _ s => s.sublist (by simp))
set_option maxRecDepth 100000 in
set_option maxHeartbeats 1000000 in
theorem insert_spec {v : Value} (l : List Int) (i : Nat) (t : Int) (bt : Nat) (hi : i ≤ l.length) (hn : l.length ≤ 65536) : Con Try.prog 52 [v, .int .i64 (i : Int), .slice (some ⟨bt, 0, none⟩) 1 1] (fun _ => True) [rowE v 3 (encI .i64) l, cellsE bt 3 [.int .i64 t]] (fun v : Value => v) (fun _ => True) (fun v => [rowE v 3 (encI .i64) (l.take i ++ t :: l.drop i)]) := by
  intro w hE hH
  have hlen2 : (l.take i ++ t :: l.drop i).length = l.length + 1 := by simp; omega
  refine enter (n := 95) (vs := [v, .int .i64 (i : Int), .slice (some ⟨bt, 0, none⟩) 1 1]) (St w (dom [rowE v 3 (encI .i64) l, cellsE bt 3 [.int .i64 t]]) [rowE v 3 (encI .i64) l, cellsE bt 3 [.int .i64 t]]) Try.func52 rfl rfl rfl (St.init hH) ?_
  refine c_seq ?_
  refine c_region _ rfl ?_
  refine l_q rfl (q_assign rfl rfl) rfl rfl ?_
  refine l_nil ?_
  refine k_then ?_
  refine c_seq ?_
  refine c_region _ rfl ?_
  refine l_q rfl (q_move rfl rfl) rfl rfl ?_
  refine l_q rfl (q_move rfl rfl) rfl rfl ?_
  refine l_q rfl (q_sliceVL i rfl Try.underlying27 Try.sizeOf3 rfl (fun _ h => h.rd 0 rfl) rfl rfl (by omega)) rfl rfl ?_
  refine l_nil ?_
  refine k_then ?_
  refine c_seq ?_
  refine c_region _ rfl ?_
  refine l_q rfl (q_move rfl rfl) rfl rfl ?_
  refine l_q rfl (q_len rfl Try.underlying27 rfl) rfl rfl ?_
  refine l_q rfl (q_assign rfl rfl) rfl rfl ?_
  refine l_nil ?_
  refine k_then ?_
  refine c_seq ?_
  refine c_seq ?_
  refine c_region _ rfl ?_
  refine l_q rfl (q_move rfl rfl) rfl rfl ?_
  refine l_q rfl (q_eql rfl rfl rfl) rfl rfl ?_
  refine l_nil ?_
  refine k_then ?_
  refine Pre.setB (t := 16) (c := false) rfl (rfl) ?_
  refine c_false rfl ?_
  refine c_skip ?_
  refine k_then ?_
  refine c_seq ?_
  refine c_region _ rfl ?_
  refine l_q rfl (q_move rfl rfl) rfl rfl ?_
  refine l_q rfl (q_lenV rfl Try.underlying27 rfl (fun _ h => h.rd 0 rfl)) rfl rfl ?_
  refine l_q rfl (q_assign rfl rfl) rfl rfl ?_
  refine l_nil ?_
  refine k_then ?_
  refine c_seq ?_
  refine c_seq ?_
  refine c_region _ rfl ?_
  refine l_q rfl (q_move rfl rfl) rfl rfl ?_
  refine l_q rfl (q_move rfl rfl) rfl rfl ?_
  refine l_q rfl (q_eql rfl rfl rfl) rfl rfl ?_
  refine l_nil ?_
  refine k_then ?_
  refine Pre.caseB 22 rfl (fun hn => ?_) (fun hn => ?_)
  · simp only [decide_eq_true_eq, decide_eq_false_iff_not, Bool.not_eq_true', Bool.not_eq_false'] at hn
    have hi2 : i = l.length := by omega
    refine c_true rfl ?_
    refine c_seq ?_
    refine c_region _ rfl ?_
    refine l_q rfl (q_move rfl rfl) rfl rfl ?_
    refine l_q rfl (q_move rfl rfl) rfl rfl ?_
    refine l_e rfl ?_
    refine e_append rfl rfl rfl Try.underlying27 Try.underlying27 info3 rfl rfl rfl rfl rfl (fun _ h => lit_rd (h.at 1 rfl) (encI .i64) [t] rfl rfl) (by simp only [byt3, List.length_append, List.length_cons, List.length_nil]; omega) (by simp only [List.length_append, List.length_cons, List.length_nil]; omega) ?_
    intro v2
    refine l_q rfl (q_assign rfl rfl) rfl rfl ?_
    refine l_nil ?_
    refine k_then ?_
    refine c_ret ?_
    refine k_then_ret ?_
    refine row_eq (l' := l.take i ++ t :: l.drop i) (by subst hi2; simp) ?_
    refine pull1 ?_
    refine drop0 ?_
    refine r_one rfl rfl ?_
    exact fun _ h => ⟨v2, rfl, trivial, h⟩
  · simp only [decide_eq_true_eq, decide_eq_false_iff_not, Bool.not_eq_true', Bool.not_eq_false'] at hn
    have hin : i < l.length := by omega
    refine row_letters (by omega) (fun b0 cap pre post hv hcap hpost => ?_)
    subst hv
    refine c_false rfl ?_
    refine c_skip ?_
    refine k_then ?_
    refine c_seq ?_
    refine c_seq ?_
    refine c_region _ rfl ?_
    refine l_q rfl (q_move rfl rfl) rfl rfl ?_
    refine l_q rfl (q_move rfl rfl) rfl rfl ?_
    refine l_q rfl (q_add64 rfl rfl rfl (by omega)) rfl rfl ?_
    refine l_q rfl (q_move rfl rfl) rfl rfl ?_
    refine l_q rfl (q_cap rfl Try.underlying27 rfl) rfl rfl ?_
    refine l_q rfl (q_gtr rfl rfl rfl) rfl rfl ?_
    refine l_nil ?_
    refine k_then ?_
    refine Pre.caseB 31 rfl (fun hroom => ?_) (fun hroom => ?_)
    · simp only [decide_eq_true_eq, decide_eq_false_iff_not, Bool.not_eq_true', Bool.not_eq_false'] at hroom
      have hp0 : post.length = cap - l.length := by rw [hpost]; exact Nat.mul_one _
      have hl0 := (encI .i64).flat_len l
      have hsz : (encI .i64).sz = 1 := rfl
      rw [hsz, Nat.mul_one] at hl0
      have hRD : ∀ (w2 w3 : World) (D : List Nat) (H : List Ent), St w3 D H w2 → (cellsE b0 3 (pre ++ (encI .i64).flat l ++ post)) ∈ H → RdV w2 (.slice (some ⟨b0, pre.length, none⟩) l.length cap) (encI .i64) l := fun w2 w3 D H h hm => cellsE_rd (h.hp.holds _ hm) _ l pre.length cap pre post rfl rfl hcap
      refine c_true rfl ?_
      refine c_seq ?_
      refine c_region _ rfl ?_
      refine l_q rfl (q_move rfl rfl) rfl rfl ?_
      refine l_q rfl (q_move rfl rfl) rfl rfl ?_
      refine l_q rfl (q_sliceH i rfl Try.underlying27 Try.sizeOf3 rfl rfl rfl (by omega)) rfl rfl ?_
      refine l_q rfl (q_move rfl rfl) rfl rfl ?_
      refine l_q rfl (q_move rfl rfl) rfl rfl ?_
      refine l_q rfl (q_add64 rfl rfl rfl (by omega)) rfl rfl ?_
      refine l_q rfl (q_move rfl rfl) rfl rfl ?_
      refine l_q rfl (q_sub64 rfl rfl rfl (by omega)) rfl rfl ?_
      refine Pre.setV (t := 39) (c := .int .i64 ((l.length + 1 - i : Nat) : Int)) rfl (by congr 1; omega) ?_
      refine l_e rfl ?_
      refine e_appendMake (E := encI .i64) (l := l.take i) (m := l.length + 1 - i) (a0 := (0 : Int)) rfl rfl rfl Try.underlying27 Try.underlying3 info3 rfl rfl rfl rfl rfl ?_ ?_ ?_ ?_ ?_
      · intro w2 h
        have h1 := vsl_rd (hRD _ _ _ _ h (List.mem_cons_self ..)) (lo := 0) (hi := i) (Nat.zero_le _) (by omega)
        have hsl : vsl (.slice (some ⟨b0, pre.length, none⟩) l.length cap) (encI .i64).sz 0 i = .slice (some ⟨b0, pre.length, none⟩) i cap := by simp [vsl, add_none]
        rw [hsl] at h1
        simpa using h1
      · show cap < (l.take i).length + (l.length + 1 - i)
        rw [List.length_take]; omega
      · rw [List.length_take]; simp only [byt3]; omega
      · rw [List.length_take]; omega
      intro v2
      refine l_q rfl (q_assign rfl rfl) rfl rfl ?_
      refine l_nil ?_
      refine k_then ?_
      refine c_seq ?_
      refine c_region _ rfl ?_
      refine l_q rfl (q_move rfl rfl) rfl rfl ?_
      refine l_q rfl (q_move rfl rfl) rfl rfl ?_
      have hl2 : (l.take i ++ List.replicate (l.length + 1 - i) (0 : Int)).length = l.length + 1 := by simp; omega
      refine row_letters (by omega) (fun b2 cap2 pre2 post2 hv2 hcap2 hpost2 => ?_)
      subst hv2
      rw [hl2] at hcap2 hpost2
      rw [hl2]
      have hp2 : post2.length = cap2 - (l.length + 1) := by rw [hpost2]; exact Nat.mul_one _
      have hA : (pre2 ++ (encI .i64).flat (l.take i)).length = pre2.length + i := by rw [List.length_append, Enc.flat_len, List.length_take, hsz]; omega
      have hcl : (pre2 ++ (encI .i64).flat (l.take i ++ List.replicate (l.length + 1 - i) (0 : Int)) ++ post2).length = pre2.length + (l.length + 1) + post2.length := by rw [List.length_append, List.length_append, Enc.flat_len, hl2, hsz]; omega
      refine l_q rfl (q_sliceL i rfl Try.underlying27 Try.sizeOf3 rfl rfl rfl (by omega)) rfl rfl ?_
      refine l_q rfl (q_move rfl rfl) rfl rfl ?_
      refine Pre.setV (t := 43) (c := .slice (some ⟨b2, pre2.length + i, none⟩) (l.length + 1 - i) (cap2 - i)) rfl (by rw [if_neg (show ¬ cap2 = i by omega), Nat.mul_one]) ?_
      refine l_e rfl ?_
      refine e_copyW (E := encI .i64) (sc' := 1) (m := [t]) 1 rfl rfl rfl Try.underlying27 Try.sizeOf3 rfl rfl (by omega) (fun _ h => lit_rd (h.at 2 rfl) (encI .i64) [t] rfl rfl) (by rw [hcl, hsz]; omega) ?_
      refine l_nil ?_
      refine k_then ?_
      refine c_seq ?_
      refine c_draw [(0, some true), (1, some true), (2, some true), (3, some true), (4, some true), (5, some true), (6, some true), (7, some true), (8, none)] [8] [(_, some true), (_, some true), (_, some true), (_, some true), (_, some true), (_, some true), (_, some true), (_, some true), (_, none)] _ (blind_then (blind_then blind_body)) rfl (by kernel_rfl) (by kernel_rfl) rfl rfl rfl (by kernel_rfl) St.drawn (fun _ h => h) ?_
      refine d_q rfl (q_move rfl rfl) rfl rfl ?_
      refine d_q rfl (q_move rfl rfl) rfl rfl ?_
      refine d_q rfl (q_move rfl rfl) rfl rfl ?_
      refine d_q rfl (q_inc rfl rfl rfl (by omega)) rfl rfl ?_
      refine d_q rfl (q_sliceL (i + 1) rfl Try.underlying27 Try.sizeOf3 rfl rfl rfl (by omega)) rfl rfl ?_
      refine d_q rfl (q_move rfl rfl) rfl rfl ?_
      refine d_q rfl (q_move rfl rfl) rfl rfl ?_
      refine d_q rfl (q_sliceL i rfl Try.underlying27 Try.sizeOf3 rfl rfl rfl (by omega)) rfl rfl ?_
      refine Pre.setV (t := 50) (c := .slice (some ⟨b2, pre2.length + (i + 1), none⟩) (l.length + 1 - (i + 1)) (cap2 - (i + 1))) rfl (by rw [if_neg (show ¬ cap2 = i + 1 by omega), Nat.mul_one]) ?_
      refine Pre.setV (t := 53) (c := .slice (some ⟨b0, pre.length + i, none⟩) (l.length - i) (cap - i)) rfl (by rw [if_neg (show ¬ cap = i by omega), Nat.mul_one]) ?_
      refine d_t rfl ?_
      refine e_copyW (E := encI .i64) (sc' := cap - i) (m := l.drop i) (l.length - i) rfl rfl rfl Try.underlying27 Try.sizeOf3 rfl rfl (by omega) (fun w2 h => ?_) (by rw [splice_len, hcl, hsz]; omega) ?_
      · have h1 := vsl_rd (hRD _ _ _ _ h (List.mem_cons_of_mem _ (List.mem_cons_self ..))) (lo := i) (hi := l.length) (by omega) (Nat.le_refl _)
        have hsl : vsl (.slice (some ⟨b0, pre.length, none⟩) l.length cap) (encI .i64).sz i l.length = .slice (some ⟨b0, pre.length + i, none⟩) (l.length - i) (cap - i) := by simp [vsl, add_none, show ¬ cap = i by omega, hsz]
        rw [hsl] at h1
        simpa using h1
      refine d_nil ?_
      refine k_then ?_
      refine c_seq ?_
      refine c_region _ rfl ?_
      refine l_q rfl (q_move rfl rfl) rfl rfl ?_
      refine l_q rfl (q_assign rfl rfl) rfl rfl ?_
      refine l_nil ?_
      refine k_then ?_
      refine c_ret ?_
      refine k_then_ret ?_
      refine row_shut (E := encI .i64) (len := l.length + 1) (cap := cap2) (l.take i ++ t :: l.drop i) pre2 post2 ?_ hlen2 (by omega) (by omega) hpost2 ?_
      · rw [Enc.flat_append, ← List.append_assoc, ← hA]
        have hd := splice_down (pre2 ++ (encI .i64).flat (l.take i)) ((encI .i64).flat (List.replicate (l.length + 1 - i) 0)) post2 ((encI .i64).flat (l.drop i)) (.int .i64 t) (by rw [Enc.flat_len, Enc.flat_len, List.length_replicate, List.length_drop, hsz]; omega)
        rw [hA, Nat.add_assoc] at hd
        rw [hA]
        refine hd.trans ?_
        rw [Enc.flat_append, Enc.flat_cons, List.append_assoc pre2]; rfl
      refine drop_2 ?_
      refine r_one rfl rfl ?_
      exact fun _ h => ⟨_, rfl, trivial, h⟩
    · simp only [decide_eq_true_eq, decide_eq_false_iff_not, Bool.not_eq_true', Bool.not_eq_false'] at hroom
      have hp0 : post.length = cap - l.length := by rw [hpost]; exact Nat.mul_one _
      have hl0 := (encI .i64).flat_len l
      have hsz : (encI .i64).sz = 1 := rfl
      rw [hsz, Nat.mul_one] at hl0
      have hcl : (pre ++ (encI .i64).flat l ++ post).length = pre.length + l.length + post.length := by rw [List.length_append, List.length_append, hl0]
      have hA : (pre ++ (encI .i64).flat (l.take i)).length = pre.length + i := by rw [List.length_append, Enc.flat_len, List.length_take, hsz]; omega
      refine c_false rfl ?_
      refine c_skip ?_
      refine k_then ?_
      refine c_seq ?_
      refine c_region _ rfl ?_
      refine l_q rfl (q_move rfl rfl) rfl rfl ?_
      refine l_q rfl (q_move rfl rfl) rfl rfl ?_
      refine l_q rfl (q_move rfl rfl) rfl rfl ?_
      refine l_q rfl (q_add64 rfl rfl rfl (by omega)) rfl rfl ?_
      refine l_q rfl (q_sliceH (l.length + 1) rfl Try.underlying27 Try.sizeOf3 rfl rfl rfl (by omega)) rfl rfl ?_
      refine l_q rfl (q_assign rfl rfl) rfl rfl ?_
      refine l_nil ?_
      refine k_then ?_
      refine c_seq ?_
      refine c_seq ?_
      refine c_region _ rfl ?_
      refine l_q rfl (q_move rfl rfl) rfl rfl ?_
      refine l_q rfl (q_move rfl rfl) rfl rfl ?_
      refine l_q rfl (q_move rfl rfl) rfl rfl ?_
      refine l_q rfl (q_move rfl rfl) rfl rfl ?_
      refine l_q rfl (q_add64 rfl rfl rfl (by omega)) rfl rfl ?_
      refine l_q rfl (q_sliceL (i + 1) rfl Try.underlying27 Try.sizeOf3 rfl rfl rfl (by omega)) rfl rfl ?_
      refine Pre.fact (fun _ h => st_ne (h := h)) ?_
      intro hne
      refine l_e rfl ?_
      refine e_overlaps (t := 27) (r := 4) (e := 3) rfl rfl rfl Try.func55 rfl (by kernel_rfl) rfl ov_find Try.underlying27 Try.sizeOf3 rfl rfl (fun _ h => h.at 1 rfl) (fun _ h => h.at 0 rfl) (fun e => hne e.symm) (by intro e; rw [e] at hcl; simp at hcl; omega) ?_
      refine l_q rfl (q_not rfl rfl) rfl rfl ?_
      refine l_nil ?_
      refine k_then ?_
      refine c_true rfl ?_
      refine c_seq ?_
      refine c_draw [(0, some true), (1, some true), (2, some true), (3, some true), (4, some true), (5, some true), (6, some true), (7, some true), (8, none)] [8] [(_, some true), (_, some true), (_, some true), (_, some true), (_, some true), (_, some true), (_, some true), (_, some true), (_, none)] _ (blind_then (blind_then blind_body)) rfl (by kernel_rfl) (by kernel_rfl) rfl rfl rfl (by kernel_rfl) St.drawn (fun _ h => h) ?_
      refine d_q rfl (q_move rfl rfl) rfl rfl ?_
      refine d_q rfl (q_move rfl rfl) rfl rfl ?_
      refine d_q rfl (q_move rfl rfl) rfl rfl ?_
      refine d_q rfl (q_inc rfl rfl rfl (by omega)) rfl rfl ?_
      refine d_q rfl (q_sliceL (i + 1) rfl Try.underlying27 Try.sizeOf3 rfl rfl rfl (by omega)) rfl rfl ?_
      refine d_q rfl (q_move rfl rfl) rfl rfl ?_
      refine d_q rfl (q_move rfl rfl) rfl rfl ?_
      refine d_q rfl (q_sliceL i rfl Try.underlying27 Try.sizeOf3 rfl rfl rfl (by omega)) rfl rfl ?_
      refine Pre.setV (t := 73) (c := .slice (some ⟨b0, pre.length + (i + 1), none⟩) (l.length + 1 - (i + 1)) (cap - (i + 1))) rfl (by rw [if_neg (show ¬ cap = i + 1 by omega), Nat.mul_one]) ?_
      refine Pre.setV (t := 76) (c := .slice (some ⟨b0, pre.length + i, none⟩) (l.length + 1 - i) (cap - i)) rfl (by rw [if_neg (show ¬ cap = i by omega), Nat.mul_one]) ?_
      refine d_t rfl ?_
      refine e_copyW (E := encI .i64) (sc' := cap - i) (m := l.drop i) (l.length - i) rfl rfl rfl Try.underlying27 Try.sizeOf3 rfl rfl (by omega) (fun w2 h => ?_) (by rw [hcl, hsz]; omega) ?_
      · have h1 := vsl_rd (cellsE_rd (h.at 0 rfl) _ l pre.length cap pre post rfl rfl hcap) (lo := i) (hi := l.length) (by omega) (Nat.le_refl _)
        have hsl : vsl (.slice (some ⟨b0, pre.length, none⟩) l.length cap) (encI .i64).sz i l.length = .slice (some ⟨b0, pre.length + i, none⟩) (l.length - i) (cap - i) := by simp [vsl, add_none, show ¬ cap = i by omega, hsz]
        rw [hsl] at h1
        simpa using h1
      refine d_nil ?_
      refine k_then ?_
      refine c_seq ?_
      refine c_region _ rfl ?_
      refine l_q rfl (q_move rfl rfl) rfl rfl ?_
      refine l_q rfl (q_move rfl rfl) rfl rfl ?_
      refine l_q rfl (q_sliceL i rfl Try.underlying27 Try.sizeOf3 rfl rfl rfl (by omega)) rfl rfl ?_
      refine l_q rfl (q_move rfl rfl) rfl rfl ?_
      refine Pre.setV (t := 80) (c := .slice (some ⟨b0, pre.length + i, none⟩) (l.length + 1 - i) (cap - i)) rfl (by rw [if_neg (show ¬ cap = i by omega), Nat.mul_one]) ?_
      refine l_e rfl ?_
      refine e_copyW (E := encI .i64) (sc' := 1) (m := [t]) 1 rfl rfl rfl Try.underlying27 Try.sizeOf3 rfl rfl (by omega) (fun _ h => lit_rd (h.at 1 rfl) (encI .i64) [t] rfl rfl) (by rw [splice_len, hcl, hsz]; omega) ?_
      refine l_nil ?_
      refine k_then ?_
      refine c_seq ?_
      refine c_region _ rfl ?_
      refine l_q rfl (q_move rfl rfl) rfl rfl ?_
      refine l_q rfl (q_assign rfl rfl) rfl rfl ?_
      refine l_nil ?_
      refine k_then ?_
      refine c_ret ?_
      refine k_then_ret ?_
      refine row_shut (E := encI .i64) (len := l.length + 1) (cap := cap) (l.take i ++ t :: l.drop i) pre (post.drop 1) ?_ hlen2 (by omega) (by omega) (by rw [List.length_drop, hp0, hsz]; omega) ?_
      · have hu := splice_up (pre ++ (encI .i64).flat (l.take i)) ((encI .i64).flat (l.drop i)) post (.int .i64 t) (by intro e; rw [e] at hp0; simp at hp0; omega)
        rw [hA, Nat.add_assoc, List.append_assoc pre, ← Enc.flat_append, List.take_append_drop] at hu
        refine hu.trans ?_
        rw [Enc.flat_append, Enc.flat_cons, List.append_assoc pre]; rfl
      refine drop_1 ?_
      refine r_one rfl rfl ?_
      exact fun _ h => ⟨_, rfl, trivial, h⟩
end Go.Proofs.Ytlakembncfkimaa
