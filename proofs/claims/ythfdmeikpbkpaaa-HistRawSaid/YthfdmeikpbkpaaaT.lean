/- a history by numbers: Told -/
import Derived.Test.YthfdmeikpbkpaaaR
set_option linter.unusedVariables false
set_option linter.unusedSimpArgs false
namespace Go.Proofs.Ythfdmeikpbkpaaa
open Go.Sep Go.RowKit

theorem set_v (a : An) (k : Kv 16) : Sep.splice (An.c a) 2 (Kv.c k) = An.c { a with v := k } := by
  have e : ∀ a : An, An.c a = [.int .i64 a.code, .bool a.found] ++ (a.v.c ++ []) := fun a => by simp [An.c]
  rw [e, e]
  exact Sep.splice_mid (a := [.int .i64 a.code, .bool a.found]) (b := a.v.c) (c := []) (vs := k.c) (k := 2) rfl (by rw [Kv.c_len, Kv.c_len])
theorem an_code (a : An) (z : Int) (h : (Lit.int .i64 z).wf = true) : ∃ b : An, (An.c a).set (0 + 0) (.int .i64 z) = b.c := ⟨{ a with code := z, wc := h }, rfl⟩
theorem an_found (a : An) (z : Bool) : ∃ b : An, (An.c a).set (0 + 1) (.bool z) = b.c := ⟨{ a with found := z }, rfl⟩
theorem an_val (a : An) (k : Kv 16) : ∃ b : An, Sep.splice (An.c a) (0 + 2) (Kv.c k) = b.c := ⟨{ a with v := k }, set_v a k⟩
def mkE (c k : Nat) (d : Bool) (a : An) (hc : c ≤ 65536) (hk : k ≤ 65536) : Ev := ⟨c, k, d, a, wf_n8 hc, wf_n8 hk⟩
theorem kv16_list (k : Kv 16) : ∃ a b c d e f g h i j l m n o p q : Int, k.b = [a, b, c, d, e, f, g, h, i, j, l, m, n, o, p, q] := by
  obtain ⟨n, b, len, _, _⟩ := k
  match b, len with
  | [a, b, c, d, e, f, g, h, i, j, l, m, n, o, p, q], _ => exact ⟨a, b, c, d, e, f, g, h, i, j, l, m, n, o, p, q, rfl⟩
theorem buildE (c k : Nat) (a : An) (hc : c ≤ 65536) (hk : k ≤ 65536) (w : World) : (Instr.build 52 #[(0, .int .i64 (c : Int)), (1, .int .i64 (k : Int)), (2, .bool true), (3, .agg a.c.toArray)]).run Try.prog w = .ok (.agg (mkE c k true a hc hk).c.toArray) w := by
  obtain ⟨x1, x2, x3, x4, x5, x6, x7, x8, x9, x10, x11, x12, x13, x14, x15, x16, hb⟩ := kv16_list a.v
  unfold Ev.c mkE An.c Kv.c
  rw [hb]
  kernel_rfl
def nI (l : List Nat) : List Int := l.map (fun n : Nat => (n : Int))
theorem nI_len (l : List Nat) : (nI l).length = l.length := List.length_map ..
theorem nI_get {l : List Nat} {c n : Nat} (h : l[c]? = some n) : (nI l)[c]? = some (n : Int) := by simp [nI, h]
theorem nI_rep (n : Nat) : nI (List.replicate n 0) = List.replicate n 0 := by simp [nI]
theorem nI_set (l : List Nat) (c n : Nat) : nI (l.set c n) = (nI l).set c (n : Int) := by unfold nI; rw [List.map_set]
def Fit (B : List Nat) (ops : List (List Op)) : Prop := ∀ (c b : Nat) (lo : List Op), B[c]? = some b → ops[c]? = some lo → b ≤ lo.length
theorem fit_zero (ops : List (List Op)) (n : Nat) : Fit (List.replicate n 0) ops := fun c b lo h _ => by have := List.mem_of_getElem? h; rw [List.mem_replicate] at this; omega
theorem fit_set {B : List Nat} {ops : List (List Op)} {c b : Nat} {lo : List Op} (h : Fit B ops) (hb : B[c]? = some b) (hlo : ops[c]? = some lo) (hlt : b < lo.length) : Fit (B.set c (b + 1)) ops := fun d b' l' h1 h2 => by
  rw [set_get hb] at h1
  split at h1
  · rename_i e; subst e; rw [hlo] at h2; cases h1; cases h2; omega
  · exact h d b' l' h1 h2
set_option maxRecDepth 100000 in
set_option maxHeartbeats 1000000 in
theorem told_ex {vo va : Value} (l : List Int) (vs : List Sv) (ops : List (List Op)) (hm : ops.length ≤ 65536) (hO : ∀ o ∈ ops, o.length ≤ 65536) : Con Try.prog 10 [vo, va] (fun w => RdV w va (encI .i64) l ∧ RR w vo vs ops) [] (fun b : Value × List Ev => b.1) (fun b => b.2.length ≤ 80) (fun b => [rowE b.1 52 Ev.enc b.2]) := by
  intro w hE hH
  obtain ⟨hl, hvo, hvl, hin⟩ := hE
  refine enter (n := 141) (vs := [vo, va]) (St w [] []) Try.func10 rfl rfl rfl (St.init hH) ?_
  refine c_seq ?_
  refine c_region _ rfl ?_
  refine l_q rfl (q_assign rfl rfl) rfl rfl ?_
  refine l_nil ?_
  refine k_then ?_
  refine c_seq ?_
  refine c_region _ rfl ?_
  refine l_q rfl (q_assign rfl rfl) rfl rfl ?_
  refine l_nil ?_
  refine k_then ?_
  refine c_seq ?_
  refine row0 52 Ev.enc none ?_
  refine c_any (fun w2 => RdV w2 vo encSv vs) rfl St.drawn ?_
  refine a_q (blind_then blind_body) 0 rfl (by kernel_rfl) (by kernel_rfl) (by kernel_rfl) (fun _ h => hvo.keep h (by simp [dom])) rfl (q_move rfl rfl) rfl rfl ?_
  refine a_q (blind_then blind_body) 1 rfl (by kernel_rfl) (by kernel_rfl) (by kernel_rfl) (fun _ h => hvo.keep h (by simp [dom])) rfl (q_lenV rfl Try.underlying23 rfl (fun _ h => h)) rfl rfl ?_
  refine a_q (blind_then blind_body) 3 rfl (by kernel_rfl) (by kernel_rfl) (by kernel_rfl) (fun _ h => hvo.keep h (by simp [dom])) rfl (q_move rfl rfl) rfl rfl ?_
  refine a_q (blind_then blind_body) 4 rfl (by kernel_rfl) (by kernel_rfl) (by kernel_rfl) (fun _ h => hvo.keep h (by simp [dom])) rfl (q_lenV rfl Try.underlying23 rfl (fun _ h => h)) rfl rfl ?_
  refine a_all2 2 5 (by kernel_rfl) rfl rfl rfl rfl ?_ ?_ 
  · refine e_makeSlice (encI .i64) 0 vs.length rfl rfl rfl Try.underlying22 info3 rfl rfl rfl rfl rfl rfl rfl (by simp only [byt3]; omega) (by omega) ?_
    intro vb
    refine d_held (fun _ h => hvo.keep h (by simp [dom])) ?_
    refine a_q (blind_then blind_body) 6 rfl (by kernel_rfl) (by kernel_rfl) (by kernel_rfl) (fun _ h => hvo.keep h (by simp [dom])) rfl (q_assign rfl rfl) rfl rfl ?_
    refine a_all1 5 (by kernel_rfl) rfl rfl ?_
    refine e_makeSlice (encI .i64) 0 vs.length rfl rfl rfl Try.underlying22 info3 rfl rfl rfl rfl rfl rfl rfl (by simp only [byt3]; omega) (by omega) ?_
    intro vd
    refine d_held (fun _ h => hvo.keep h (by simp [dom])) ?_
    refine a_q (blind_then blind_body) 7 rfl (by kernel_rfl) (by kernel_rfl) (by kernel_rfl) (fun _ h => hvo.keep h (by simp [dom])) rfl (q_assign rfl rfl) rfl rfl ?_
    refine a_nil (by kernel_rfl) ?_
    refine k_then ?_
    refine c_seq ?_
    refine c_seq ?_
    refine c_region _ rfl ?_
    refine l_q rfl (q_assign rfl rfl) rfl rfl ?_
    refine l_nil ?_
    refine k_then ?_
    refine c_block ?_
    refine pull1 ?_
    refine pull2 ?_
    refine c_loop5 (fun (i : Nat) (v : Value) (E : List Ev) (B : List Nat) (D : List Nat) => [(0, vo), (1, va), (5, v), (6, vb), (7, vd), (8, .int .i64 (i : Int))]) (fun (i : Nat) (v : Value) (E : List Ev) (B : List Nat) (D : List Nat) => St w [] [rowE v 52 Ev.enc E, rowE vb 3 (encI .i64) (nI B), rowE vd 3 (encI .i64) (nI D)]) (fun (i : Nat) (v : Value) (E : List Ev) (B : List Nat) (D : List Nat) => i ≤ l.length ∧ E.length ≤ i ∧ i ≤ 80 ∧ B.length = vs.length ∧ D.length = vs.length ∧ Fit B ops) (fun (i : Nat) (v : Value) (E : List Ev) (B : List Nat) (D : List Nat) => l.length - i) (0) (.slice none 0 0) ([]) (List.replicate vs.length 0) (List.replicate vs.length 0) ⟨Nat.zero_le _, Nat.le_refl _, Nat.zero_le _, List.length_replicate .., List.length_replicate .., fit_zero _ _⟩ (Sub.cons rfl (Sub.cons rfl (Sub.cons rfl (Sub.cons rfl (Sub.cons rfl (Sub.cons rfl (Sub.nil))))))) (fun _ h => by rw [nI_rep]; exact h) ?_
    intro i v E B D hp
    refine c_seq ?_
    refine c_seq ?_
    obtain ⟨hi, hEl, hi80, hBl, hDl, hfit⟩ := hp
    have hbl := nI_len B
    have hdl := nI_len D
    refine c_region _ rfl ?_
    refine l_q rfl (q_move rfl rfl) rfl rfl ?_
    refine l_q rfl (q_move rfl rfl) rfl rfl ?_
    refine l_q rfl (q_lenV rfl Try.underlying22 rfl (fun _ h => hl.keep h (by simp [dom]))) rfl rfl ?_
    refine l_q rfl (q_lss rfl rfl rfl) rfl rfl ?_
    refine l_q rfl (q_move rfl rfl) rfl rfl ?_
    refine Pre.caseB 23 rfl (fun h1 => ?_) (fun h1 => ?_)
    · try simp only [decide_eq_true_eq, decide_eq_false_iff_not, Bool.not_eq_true', Bool.not_eq_false'] at h1
      refine l_q rfl (q_move rfl rfl) rfl rfl ?_
      refine l_q rfl (q_lss rfl rfl rfl) rfl rfl ?_
      refine l_q rfl (q_pick_t rfl rfl rfl) rfl rfl ?_
      refine l_q rfl (q_move rfl rfl) rfl rfl ?_
      refine Pre.caseB 27 rfl (fun h2 => ?_) (fun h2 => ?_)
      · try simp only [decide_eq_true_eq, decide_eq_false_iff_not, Bool.not_eq_true', Bool.not_eq_false'] at h2
        refine l_q rfl (q_move rfl rfl) rfl rfl ?_
        refine l_q rfl (q_lenV rfl Try.underlying23 rfl (fun _ h => hvo.keep h (by simp [dom]))) rfl rfl ?_
        refine l_q rfl (q_gtr rfl rfl rfl) rfl rfl ?_
        refine l_q rfl (q_pick_t rfl rfl rfl) rfl rfl ?_
        refine l_nil ?_
        refine k_then ?_
        refine Pre.caseB 31 rfl (fun h3 => ?_) (fun h3 => ?_)
        · try simp only [decide_eq_true_eq, decide_eq_false_iff_not, Bool.not_eq_true', Bool.not_eq_false'] at h3
          obtain ⟨x, hx⟩ : ∃ x, l[i]? = some x := ⟨_, List.getElem?_eq_getElem (by omega)⟩
          refine c_true rfl ?_
          refine c_skip ?_
          refine k_then ?_
          refine c_seq ?_
          refine c_block ?_
          refine c_seq ?_
          refine c_region _ rfl ?_
          refine l_q rfl (q_move rfl rfl) rfl rfl ?_
          refine l_q rfl (q_move rfl rfl) rfl rfl ?_
          refine l_q rfl (q_indexV i rfl Try.underlying22 Try.sizeOf3 rfl (fun _ h => hl.keep h (by simp [dom])) rfl rfl (by omega)) rfl rfl ?_
          refine l_q rfl (q_loadV i 0 rfl Try.isAgg3 rfl rfl (fun _ h => hl.keep h (by simp [dom])) hx rfl) rfl rfl ?_
          refine l_q rfl (q_move rfl rfl) rfl rfl ?_
          refine l_q rfl (q_lenV rfl Try.underlying23 rfl (fun _ h => hvo.keep h (by simp [dom]))) rfl rfl ?_
          refine l_e rfl ?_
          refine e_call_00 (place_spec x (vs.length : Int) (by omega) (by omega)) rfl rfl rfl Try.call9 rfl (fun _ _ => trivial) ?_
          intro _ _
          refine l_q rfl (q_assign rfl rfl) rfl rfl ?_
          refine l_nil ?_
          refine k_then ?_
          refine c_seq ?_
          refine c_region _ rfl ?_
          refine l_q rfl (q_move rfl rfl) rfl rfl ?_
          refine l_q rfl (q_move rfl rfl) rfl rfl ?_
          refine l_q rfl (q_indexV i rfl Try.underlying22 Try.sizeOf3 rfl (fun _ h => hl.keep h (by simp [dom])) rfl rfl (by omega)) rfl rfl ?_
          refine l_q rfl (q_loadV i 0 rfl Try.isAgg3 rfl rfl (fun _ h => hl.keep h (by simp [dom])) hx rfl) rfl rfl ?_
          refine l_q rfl (q_quo rfl rfl rfl (by decide)) rfl rfl ?_
          obtain ⟨c, hc, hcl⟩ : ∃ c : Nat, x % (vs.length : Int) = (c : Int) ∧ c < vs.length := by
            have g1 := Int.emod_nonneg x (b := (vs.length : Int)) (by omega)
            have g2 := Int.emod_lt_of_pos x (b := (vs.length : Int)) (by omega)
            exact ⟨(x % (vs.length : Int)).toNat, by omega, by omega⟩
          refine Pre.setV (t := 9) (c := .int .i64 (c : Int)) rfl (by rw [hc]) ?_
          refine l_e rfl ?_
          refine e_call_00 (place_spec (IntKind.i64.wrap (x.tdiv 8)) 64 (by decide) (by decide)) rfl rfl rfl Try.call9 rfl (fun _ _ => trivial) ?_
          intro _ _
          refine l_q rfl (q_assign rfl rfl) rfl rfl ?_
          refine l_nil ?_
          refine k_then ?_
          refine c_seq ?_
          refine c_seq ?_
          obtain ⟨kk, hkk, hk64⟩ : ∃ kk : Nat, IntKind.i64.wrap (x.tdiv 8) % 64 = (kk : Int) ∧ kk < 64 := ⟨(IntKind.i64.wrap (x.tdiv 8) % 64).toNat, by omega, by omega⟩
          refine Pre.setV (t := 10) (c := .int .i64 (kk : Int)) rfl (by rw [hkk]) ?_
          obtain ⟨b, hb⟩ : ∃ b, B[c]? = some b := ⟨_, List.getElem?_eq_getElem (by omega)⟩
          obtain ⟨dn, hdn⟩ : ∃ d, D[c]? = some d := ⟨_, List.getElem?_eq_getElem (by omega)⟩
          obtain ⟨s, hs⟩ : ∃ s, vs[c]? = some s := ⟨_, List.getElem?_eq_getElem (by omega)⟩
          obtain ⟨lo, hlo⟩ : ∃ o, ops[c]? = some o := ⟨_, List.getElem?_eq_getElem (by omega)⟩
          have hbc := nI_get hb
          have hdc := nI_get hdn
          have hrd := hin c s lo hs hlo
          have hlm := hO lo (List.mem_of_getElem? hlo)
          have hbf := hfit c b lo hb hlo
          refine c_draw [(0, some true), (1, some true), (2, some true), (3, some true), (4, some true), (5, some true), (6, some true), (7, some true), (8, some true)] [] [(_, some true), (_, some true), (_, some true), (_, some true), (_, some true), (_, some true), (_, some true), (_, some true), (_, some true)] _ (blind_then (blind_then (blind_block (blind_then (blind_then (blind_block (blind_then blind_body))))))) rfl (by kernel_rfl) (by kernel_rfl) rfl rfl rfl (by kernel_rfl) St.drawn (fun _ h => h) ?_
          refine d_q rfl (q_move rfl rfl) rfl rfl ?_
          refine d_q rfl (q_move rfl rfl) rfl rfl ?_
          refine d_q rfl (q_indexV c rfl Try.underlying22 Try.sizeOf3 rfl (fun _ h => h.rd 1 rfl) rfl rfl (by omega)) rfl rfl ?_
          refine d_q rfl (q_loadV c 0 rfl Try.isAgg3 rfl rfl (fun _ h => h.rd 1 rfl) hbc rfl) rfl rfl ?_
          refine d_q rfl (q_move rfl rfl) rfl rfl ?_
          refine d_q rfl (q_move rfl rfl) rfl rfl ?_
          refine d_q rfl (q_indexV c rfl Try.underlying22 Try.sizeOf3 rfl (fun _ h => h.rd 2 rfl) rfl rfl (by omega)) rfl rfl ?_
          refine d_q rfl (q_loadV c 0 rfl Try.isAgg3 rfl rfl (fun _ h => h.rd 2 rfl) hdc rfl) rfl rfl ?_
          refine d_q rfl (q_gtr rfl rfl rfl) rfl rfl ?_
          refine d_nil ?_
          refine k_then ?_
          refine Pre.caseB 55 rfl (fun h4 => ?_) (fun h4 => ?_)
          · try simp only [decide_eq_true_eq, decide_eq_false_iff_not, Bool.not_eq_true', Bool.not_eq_false'] at h4
            obtain ⟨o, ho⟩ : ∃ o, lo[dn]? = some o := ⟨_, List.getElem?_eq_getElem (by omega)⟩
            refine c_true rfl ?_
            refine c_seq ?_
            refine c_draw [(0, some true), (1, some true), (2, some true), (3, some true), (4, some true), (5, some true), (6, some true), (7, some true), (8, some true), (9, some true), (10, some false), (11, none)] [11] [(_, some true), (_, some true), (_, some true), (_, some true), (_, some true), (_, some true), (_, some true), (_, some true), (_, some true), (_, some true), (_, some false), (_, none)] (fun w2 => RdV w2 vo encSv vs ∧ RdV w2 s.v Op.enc lo ∧ RdV w2 vd (encI .i64) (nI D)) (blind_then (blind_then (blind_block (blind_then (blind_then (blind_block (blind_then blind_body))))))) rfl (by kernel_rfl) (by kernel_rfl) rfl rfl rfl (by kernel_rfl) St.drawn (fun _ h => ⟨hvo.keep h (by simp [dom]), hrd.keep h (by simp [dom]), h.rd 2 rfl⟩) ?_
            refine d_q rfl (q_move rfl rfl) rfl rfl ?_
            refine d_q rfl (q_move rfl rfl) rfl rfl ?_
            refine d_q rfl (q_indexV c rfl Try.underlying23 Try.sizeOf38 rfl (fun _ h => h.1) rfl rfl (by omega)) rfl rfl ?_
            refine d_q rfl (q_loadV c 0 rfl Try.isAgg38 rfl rfl (fun _ h => h.1) hs rfl) rfl rfl ?_
            refine d_q rfl (q_move rfl rfl) rfl rfl ?_
            refine d_q rfl (q_move rfl rfl) rfl rfl ?_
            refine d_q rfl (q_indexV c rfl Try.underlying22 Try.sizeOf3 rfl (fun _ h => h.2.2) rfl rfl (by omega)) rfl rfl ?_
            refine d_q rfl (q_loadV c 0 rfl Try.isAgg3 rfl rfl (fun _ h => h.2.2) hdc rfl) rfl rfl ?_
            refine d_q rfl (q_indexV dn rfl Try.underlying38 Try.sizeOf37 rfl (fun _ h => h.2.1) rfl rfl (by omega)) rfl rfl ?_
            refine d_q rfl (q_loadVAgg dn rfl Try.isAgg37 Try.sizeOf37 rfl rfl (fun _ h => h.2.1) ho) rfl rfl ?_
            refine d_e rfl ?_
            refine e_alloc rfl rfl rfl Try.zeroValue37 ?_
            intro bo
            refine d_held (fun _ h => ⟨hvo.keep h (by simp [dom]), hrd.keep h (by simp [dom]), h.rd 3 rfl⟩) ?_
            refine d_t rfl ?_
            refine e_storeAgg rfl rfl Try.sizeOf37 rfl rfl (Op.c_len _) (Op.one _) (by show 0 + (Op.c o).length ≤ 4; rw [Op.c_len]; decide) ?_
            refine cells_eq (show Sep.splice _ 0 o.c = o.c from Sep.splice_all rfl) ?_
            refine d_nil ?_
            refine k_then ?_
            refine c_seq ?_
            refine c_region _ rfl ?_
            refine l_q rfl (q_build (an0.c) rfl rfl (fun w => by kernel_rfl)) rfl rfl ?_
            refine l_e rfl ?_
            refine e_alloc rfl rfl rfl Try.zeroValue45 ?_
            intro ba
            refine l_e rfl ?_
            refine e_storeAgg rfl rfl Try.sizeOf45 rfl rfl (An.c_len _) (An.one _) (by show 0 + (An.c an0).length ≤ 19; rw [An.c_len]; decide) ?_
            refine cells_eq (show Sep.splice _ 0 an0.c = an0.c from Sep.splice_all (by rw [An.c_len]; rfl)) ?_
            refine l_nil ?_
            refine k_then ?_
            refine c_seq ?_
            refine c_block ?_
            refine c_seq ?_
            refine c_region _ rfl ?_
            refine l_q rfl (q_loadCAgg (o.c) rfl Try.isAgg37 Try.sizeOf37 rfl (fun _ h => h.at 1 rfl) (rfl) (rfl)) rfl rfl ?_
            refine l_e rfl ?_
            refine e_call_00 (rlrg_spec o) rfl rfl rfl Try.call24 rfl (fun _ _ => trivial) ?_
            intro _ _
            refine l_q rfl (q_assign rfl rfl) rfl rfl ?_
            refine l_nil ?_
            refine k_then ?_
            refine Pre.caseB 67 rfl (fun h3 => ?_) (fun h3 => ?_)
            · try simp only [decide_eq_true_eq, decide_eq_false_iff_not, Bool.not_eq_true', Bool.not_eq_false'] at h3
              refine c_true rfl ?_
              refine c_region _ rfl ?_
              refine l_q rfl (q_fieldAddr rfl Try.underlying45 rfl Try.sizeOf40 rfl rfl) rfl rfl ?_
              obtain ⟨a1, ha1⟩ := an_code an0 2 (by first | decide | exact wf_n8 (k := kk / 8) (by omega) | (simp only [Lit.wf, Bool.and_eq_true, decide_eq_true_eq]; exact ⟨by show (-2 ^ 63 : Int) ≤ _; omega, by show _ ≤ (2 ^ 63 - 1 : Int); omega⟩))
              refine l_e rfl ?_
              refine e_store rfl rfl Try.sizeOf40 rfl rfl rfl (by show 0 + 0 < (An.c an0).length; rw [An.c_len]; decide) ?_
              refine cells_eq (ha1) ?_
              refine l_nil ?_
              refine k_block ?_
              refine k_then ?_
              refine c_seq ?_
              refine c_seq ?_
              refine c_region _ rfl ?_
              refine l_q rfl (q_move rfl rfl) rfl rfl ?_
              refine l_q rfl (q_eql rfl rfl rfl) rfl rfl ?_
              refine l_nil ?_
              refine k_then ?_
              refine Pre.caseB 95 rfl (fun h4 => ?_) (fun h4 => ?_)
              · try simp only [decide_eq_true_eq, decide_eq_false_iff_not, Bool.not_eq_true', Bool.not_eq_false'] at h4
                refine c_true rfl ?_
                refine c_region _ rfl ?_
                refine l_q rfl (q_move rfl rfl) rfl rfl ?_
                refine l_q rfl (q_quo_nn rfl rfl rfl (by omega) (by omega) (by omega)) rfl rfl ?_
                refine l_q rfl (q_fieldAddr rfl Try.underlying45 rfl Try.sizeOf40 rfl rfl) rfl rfl ?_
                obtain ⟨a2, ha2⟩ := an_code a1 ((kk : Int) / 8) (by first | decide | exact wf_n8 (k := kk / 8) (by omega) | (simp only [Lit.wf, Bool.and_eq_true, decide_eq_true_eq]; exact ⟨by show (-2 ^ 63 : Int) ≤ _; omega, by show _ ≤ (2 ^ 63 - 1 : Int); omega⟩))
                refine l_e rfl ?_
                refine e_store rfl rfl Try.sizeOf40 rfl rfl rfl (by show 0 + 0 < (An.c a1).length; rw [An.c_len]; decide) ?_
                refine cells_eq (ha2) ?_
                refine l_nil ?_
                refine k_then ?_
                refine c_seq ?_
                refine c_draw [(0, some true), (1, some true), (2, some true), (3, some true), (4, some true), (5, some true), (6, some true), (7, some true), (8, some false), (9, some false), (10, some true)] [] [(_, some true), (_, some true), (_, some true), (_, some true), (_, some true), (_, some true), (_, some true), (_, some true), (_, some false), (_, some false), (_, some true)] (fun w2 => RdV w2 vd (encI .i64) (nI D) ∧ (cellsE ba 45 a2.c).at w2) (blind_then (blind_then (blind_block (blind_then (blind_then (blind_block (blind_then blind_body))))))) rfl (by kernel_rfl) (by kernel_rfl) rfl rfl rfl (by kernel_rfl) St.drawn (fun _ h => ⟨h.rd 4 rfl, h.at 0 rfl⟩) ?_
                refine d_q rfl (q_move rfl rfl) rfl rfl ?_
                refine d_q rfl (q_move rfl rfl) rfl rfl ?_
                refine d_q rfl (q_move rfl rfl) rfl rfl ?_
                refine d_q rfl (q_move rfl rfl) rfl rfl ?_
                refine d_q rfl (q_indexV c rfl Try.underlying22 Try.sizeOf3 rfl (fun _ h => h.1) rfl rfl (by omega)) rfl rfl ?_
                refine d_q rfl (q_loadV c 0 rfl Try.isAgg3 rfl rfl (fun _ h => h.1) hdc rfl) rfl rfl ?_
                refine d_q rfl (q_loadCAgg (a2.c) rfl Try.isAgg45 Try.sizeOf45 rfl (fun _ h => h.2) (List.take_of_length_le (by rw [List.drop_zero, An.c_len]; exact Nat.le_refl _)) (An.c_len _)) rfl rfl ?_
                refine d_q rfl (q_build ((mkE c dn true a2 (by omega) (by omega)).c) rfl rfl (fun w => buildE c dn a2 (by omega) (by omega) w)) rfl rfl ?_
                refine d_e rfl ?_
                refine e_buildSliceV (sz := 22) [.tmp 106] rfl rfl rfl rfl rfl Try.underlying26 Try.sizeOf52 rfl Try.zeroValue52 (by simp [Value.cells, Ev.c_len]) ?_
                intro b6
                refine d_held (fun _ h => ⟨h.rd 5 rfl, h.at 1 rfl⟩) ?_
                refine pull3 ?_
                refine d_e rfl ?_
                refine e_append rfl rfl rfl Try.underlying26 Try.underlying26 info52 rfl rfl rfl rfl rfl (fun _ h => lit_rd (h.at 1 rfl) Ev.enc [(mkE c dn true a2 (by omega) (by omega))] rfl rfl) (by simp only [byt52, List.length_append, List.length_cons, List.length_nil]; omega) (by simp only [List.length_append, List.length_cons, List.length_nil]; omega) ?_
                intro v2
                refine pull1 ?_
                refine drop0 ?_
                refine d_held (fun _ h => ⟨h.rd 4 rfl, h.at 1 rfl⟩) ?_
                refine d_q rfl (q_assign rfl rfl) rfl rfl ?_
                refine d_nil ?_
                refine k_then ?_
                refine c_seq ?_
                refine c_region _ rfl ?_
                refine l_q rfl (q_move rfl rfl) rfl rfl ?_
                refine l_q rfl (q_move rfl rfl) rfl rfl ?_
                refine l_q rfl (q_indexV c rfl Try.underlying22 Try.sizeOf3 rfl (fun _ h => h.rd 4 rfl) rfl rfl (by omega)) rfl rfl ?_
                refine l_q rfl (q_loadV c 0 rfl Try.isAgg3 rfl rfl (fun _ h => h.rd 4 rfl) hdc rfl) rfl rfl ?_
                refine l_q rfl (q_inc rfl rfl rfl (by omega)) rfl rfl ?_
                refine l_q rfl (q_indexV c rfl Try.underlying22 Try.sizeOf3 rfl (fun _ h => h.rd 4 rfl) rfl rfl (by omega)) rfl rfl ?_
                refine pull4 ?_
                refine l_e rfl ?_
                refine e_storeV c 0 (((dn + 1 : Nat) : Int)) rfl rfl Try.sizeOf3 rfl rfl rfl (List.getElem?_eq_getElem (by omega)) (by decide) rfl ?_
                refine l_nil ?_
                refine k_then ?_
                refine c_exit ?_
                refine k_then_exit ?_
                refine k_block_exit ?_
                refine k_then ?_
                refine c_region _ rfl ?_
                refine l_q rfl (q_move rfl rfl) rfl rfl ?_
                refine l_q rfl (q_inc rfl rfl rfl (by omega)) rfl rfl ?_
                refine l_q rfl (q_assign rfl rfl) rfl rfl ?_
                refine l_nil ?_
                refine pull2 ?_
                refine drop0 ?_
                refine pull2 ?_
                refine drop0 ?_
                refine pull2 ?_
                refine pull2 ?_
                exact k_round ((i + 1, v2, E ++ [mkE c dn true a2 (by omega) (by omega)], B, D.set c (dn + 1))) (by dsimp only; omega) ⟨by dsimp only; omega, by dsimp only; rw [List.length_append]; simp only [List.length_cons, List.length_nil]; omega, by dsimp only; omega, hBl, by dsimp only; rw [List.length_set]; exact hDl, hfit⟩ (Sub.cons rfl (Sub.cons rfl (Sub.cons rfl (Sub.cons rfl (Sub.cons rfl (Sub.cons rfl (Sub.nil))))))) (fun _ h => by dsimp only; rw [nI_set]; exact h)
              · try simp only [decide_eq_true_eq, decide_eq_false_iff_not, Bool.not_eq_true', Bool.not_eq_false'] at h4
                refine c_false rfl ?_
                refine c_skip ?_
                refine k_then ?_
                refine c_seq ?_
                refine c_draw [(0, some true), (1, some true), (2, some true), (3, some true), (4, some true), (5, some true), (6, some true), (7, some true), (8, some false), (9, some false), (10, some true)] [] [(_, some true), (_, some true), (_, some true), (_, some true), (_, some true), (_, some true), (_, some true), (_, some true), (_, some false), (_, some false), (_, some true)] (fun w2 => RdV w2 vd (encI .i64) (nI D) ∧ (cellsE ba 45 a1.c).at w2) (blind_then (blind_then (blind_block (blind_then (blind_then (blind_block (blind_then blind_body))))))) rfl (by kernel_rfl) (by kernel_rfl) rfl rfl rfl (by kernel_rfl) St.drawn (fun _ h => ⟨h.rd 4 rfl, h.at 0 rfl⟩) ?_
                refine d_q rfl (q_move rfl rfl) rfl rfl ?_
                refine d_q rfl (q_move rfl rfl) rfl rfl ?_
                refine d_q rfl (q_move rfl rfl) rfl rfl ?_
                refine d_q rfl (q_move rfl rfl) rfl rfl ?_
                refine d_q rfl (q_indexV c rfl Try.underlying22 Try.sizeOf3 rfl (fun _ h => h.1) rfl rfl (by omega)) rfl rfl ?_
                refine d_q rfl (q_loadV c 0 rfl Try.isAgg3 rfl rfl (fun _ h => h.1) hdc rfl) rfl rfl ?_
                refine d_q rfl (q_loadCAgg (a1.c) rfl Try.isAgg45 Try.sizeOf45 rfl (fun _ h => h.2) (List.take_of_length_le (by rw [List.drop_zero, An.c_len]; exact Nat.le_refl _)) (An.c_len _)) rfl rfl ?_
                refine d_q rfl (q_build ((mkE c dn true a1 (by omega) (by omega)).c) rfl rfl (fun w => buildE c dn a1 (by omega) (by omega) w)) rfl rfl ?_
                refine d_e rfl ?_
                refine e_buildSliceV (sz := 22) [.tmp 106] rfl rfl rfl rfl rfl Try.underlying26 Try.sizeOf52 rfl Try.zeroValue52 (by simp [Value.cells, Ev.c_len]) ?_
                intro b8
                refine d_held (fun _ h => ⟨h.rd 5 rfl, h.at 1 rfl⟩) ?_
                refine pull3 ?_
                refine d_e rfl ?_
                refine e_append rfl rfl rfl Try.underlying26 Try.underlying26 info52 rfl rfl rfl rfl rfl (fun _ h => lit_rd (h.at 1 rfl) Ev.enc [(mkE c dn true a1 (by omega) (by omega))] rfl rfl) (by simp only [byt52, List.length_append, List.length_cons, List.length_nil]; omega) (by simp only [List.length_append, List.length_cons, List.length_nil]; omega) ?_
                intro v2
                refine pull1 ?_
                refine drop0 ?_
                refine d_held (fun _ h => ⟨h.rd 4 rfl, h.at 1 rfl⟩) ?_
                refine d_q rfl (q_assign rfl rfl) rfl rfl ?_
                refine d_nil ?_
                refine k_then ?_
                refine c_seq ?_
                refine c_region _ rfl ?_
                refine l_q rfl (q_move rfl rfl) rfl rfl ?_
                refine l_q rfl (q_move rfl rfl) rfl rfl ?_
                refine l_q rfl (q_indexV c rfl Try.underlying22 Try.sizeOf3 rfl (fun _ h => h.rd 4 rfl) rfl rfl (by omega)) rfl rfl ?_
                refine l_q rfl (q_loadV c 0 rfl Try.isAgg3 rfl rfl (fun _ h => h.rd 4 rfl) hdc rfl) rfl rfl ?_
                refine l_q rfl (q_inc rfl rfl rfl (by omega)) rfl rfl ?_
                refine l_q rfl (q_indexV c rfl Try.underlying22 Try.sizeOf3 rfl (fun _ h => h.rd 4 rfl) rfl rfl (by omega)) rfl rfl ?_
                refine pull4 ?_
                refine l_e rfl ?_
                refine e_storeV c 0 (((dn + 1 : Nat) : Int)) rfl rfl Try.sizeOf3 rfl rfl rfl (List.getElem?_eq_getElem (by omega)) (by decide) rfl ?_
                refine l_nil ?_
                refine k_then ?_
                refine c_exit ?_
                refine k_then_exit ?_
                refine k_block_exit ?_
                refine k_then ?_
                refine c_region _ rfl ?_
                refine l_q rfl (q_move rfl rfl) rfl rfl ?_
                refine l_q rfl (q_inc rfl rfl rfl (by omega)) rfl rfl ?_
                refine l_q rfl (q_assign rfl rfl) rfl rfl ?_
                refine l_nil ?_
                refine pull2 ?_
                refine drop0 ?_
                refine pull2 ?_
                refine drop0 ?_
                refine pull2 ?_
                refine pull2 ?_
                exact k_round ((i + 1, v2, E ++ [mkE c dn true a1 (by omega) (by omega)], B, D.set c (dn + 1))) (by dsimp only; omega) ⟨by dsimp only; omega, by dsimp only; rw [List.length_append]; simp only [List.length_cons, List.length_nil]; omega, by dsimp only; omega, hBl, by dsimp only; rw [List.length_set]; exact hDl, hfit⟩ (Sub.cons rfl (Sub.cons rfl (Sub.cons rfl (Sub.cons rfl (Sub.cons rfl (Sub.cons rfl (Sub.nil))))))) (fun _ h => by dsimp only; rw [nI_set]; exact h)
            · try simp only [decide_eq_true_eq, decide_eq_false_iff_not, Bool.not_eq_true', Bool.not_eq_false'] at h3
              refine c_false rfl ?_
              refine c_seq ?_
              refine c_region _ rfl ?_
              refine l_q rfl (q_fieldAddr rfl Try.underlying37 rfl Try.sizeOf3 rfl rfl) rfl rfl ?_
              refine l_q rfl (q_loadC rfl Try.isAgg3 rfl (fun _ h => h.at 1 rfl) rfl) rfl rfl ?_
              refine l_q rfl (q_eql rfl rfl rfl) rfl rfl ?_
              refine l_q rfl (q_move rfl rfl) rfl rfl ?_
              refine Pre.caseB 75 rfl (fun h9 => ?_) (fun h9 => ?_)
              · try simp only [decide_eq_true_eq, decide_eq_false_iff_not, Bool.not_eq_true', Bool.not_eq_false'] at h9
                refine l_q rfl (q_move rfl rfl) rfl rfl ?_
                refine l_q rfl (q_rem_nn rfl rfl rfl (by omega) (by omega)) rfl rfl ?_
                refine l_q rfl (q_eql rfl rfl rfl) rfl rfl ?_
                refine l_q rfl (q_pick_t rfl rfl rfl) rfl rfl ?_
                refine l_q rfl (q_assign rfl rfl) rfl rfl ?_
                refine l_nil ?_
                refine k_then ?_
                refine Pre.caseB 71 rfl (fun h10 => ?_) (fun h10 => ?_)
                · try simp only [decide_eq_true_eq, decide_eq_false_iff_not, Bool.not_eq_true', Bool.not_eq_false'] at h10
                  refine c_true rfl ?_
                  refine c_region _ rfl ?_
                  refine l_q rfl (q_move rfl rfl) rfl rfl ?_
                  refine l_e rfl ?_
                  refine e_call_00 (value_ex _) rfl rfl rfl Try.call26 rfl (fun _ _ => trivial) ?_
                  intro vl _
                  refine l_q rfl (q_fieldAddr rfl Try.underlying45 rfl Try.sizeOf4 rfl rfl) rfl rfl ?_
                  obtain ⟨a1, ha1⟩ := an_found an0 true
                  refine l_e rfl ?_
                  refine e_store rfl rfl Try.sizeOf4 rfl rfl rfl (by show 0 + 1 < (An.c an0).length; rw [An.c_len]; decide) ?_
                  refine cells_eq (ha1) ?_
                  refine l_q rfl (q_fieldAddr rfl Try.underlying45 rfl Try.sizeOf43 rfl rfl) rfl rfl ?_
                  obtain ⟨a2, ha2⟩ := an_val a1 vl
                  refine l_e rfl ?_
                  refine e_storeAgg rfl rfl Try.sizeOf43 rfl rfl (Kv.c_len _) (Kv.one _) (by show 0 + 2 + (Kv.c vl).length ≤ (An.c a1).length; rw [Kv.c_len, An.c_len]; decide) ?_
                  refine cells_eq (ha2) ?_
                  refine l_nil ?_
                  refine k_block ?_
                  refine k_then ?_
                  refine c_seq ?_
                  refine c_seq ?_
                  refine c_region _ rfl ?_
                  refine l_q rfl (q_move rfl rfl) rfl rfl ?_
                  refine l_q rfl (q_eql rfl rfl rfl) rfl rfl ?_
                  refine l_nil ?_
                  refine k_then ?_
                  refine Pre.caseB 95 rfl (fun h11 => ?_) (fun h11 => ?_)
                  · try simp only [decide_eq_true_eq, decide_eq_false_iff_not, Bool.not_eq_true', Bool.not_eq_false'] at h11
                    refine c_true rfl ?_
                    refine c_region _ rfl ?_
                    refine l_q rfl (q_move rfl rfl) rfl rfl ?_
                    refine l_q rfl (q_quo_nn rfl rfl rfl (by omega) (by omega) (by omega)) rfl rfl ?_
                    refine l_q rfl (q_fieldAddr rfl Try.underlying45 rfl Try.sizeOf40 rfl rfl) rfl rfl ?_
                    obtain ⟨a3, ha3⟩ := an_code a2 ((kk : Int) / 8) (by first | decide | exact wf_n8 (k := kk / 8) (by omega) | (simp only [Lit.wf, Bool.and_eq_true, decide_eq_true_eq]; exact ⟨by show (-2 ^ 63 : Int) ≤ _; omega, by show _ ≤ (2 ^ 63 - 1 : Int); omega⟩))
                    refine l_e rfl ?_
                    refine e_store rfl rfl Try.sizeOf40 rfl rfl rfl (by show 0 + 0 < (An.c a2).length; rw [An.c_len]; decide) ?_
                    refine cells_eq (ha3) ?_
                    refine l_nil ?_
                    refine k_then ?_
                    refine c_seq ?_
                    refine c_draw [(0, some true), (1, some true), (2, some true), (3, some true), (4, some true), (5, some true), (6, some true), (7, some true), (8, some false), (9, some false), (10, some true)] [] [(_, some true), (_, some true), (_, some true), (_, some true), (_, some true), (_, some true), (_, some true), (_, some true), (_, some false), (_, some false), (_, some true)] (fun w2 => RdV w2 vd (encI .i64) (nI D) ∧ (cellsE ba 45 a3.c).at w2) (blind_then (blind_then (blind_block (blind_then (blind_then (blind_block (blind_then blind_body))))))) rfl (by kernel_rfl) (by kernel_rfl) rfl rfl rfl (by kernel_rfl) St.drawn (fun _ h => ⟨h.rd 4 rfl, h.at 0 rfl⟩) ?_
                    refine d_q rfl (q_move rfl rfl) rfl rfl ?_
                    refine d_q rfl (q_move rfl rfl) rfl rfl ?_
                    refine d_q rfl (q_move rfl rfl) rfl rfl ?_
                    refine d_q rfl (q_move rfl rfl) rfl rfl ?_
                    refine d_q rfl (q_indexV c rfl Try.underlying22 Try.sizeOf3 rfl (fun _ h => h.1) rfl rfl (by omega)) rfl rfl ?_
                    refine d_q rfl (q_loadV c 0 rfl Try.isAgg3 rfl rfl (fun _ h => h.1) hdc rfl) rfl rfl ?_
                    refine d_q rfl (q_loadCAgg (a3.c) rfl Try.isAgg45 Try.sizeOf45 rfl (fun _ h => h.2) (List.take_of_length_le (by rw [List.drop_zero, An.c_len]; exact Nat.le_refl _)) (An.c_len _)) rfl rfl ?_
                    refine d_q rfl (q_build ((mkE c dn true a3 (by omega) (by omega)).c) rfl rfl (fun w => buildE c dn a3 (by omega) (by omega) w)) rfl rfl ?_
                    refine d_e rfl ?_
                    refine e_buildSliceV (sz := 22) [.tmp 106] rfl rfl rfl rfl rfl Try.underlying26 Try.sizeOf52 rfl Try.zeroValue52 (by simp [Value.cells, Ev.c_len]) ?_
                    intro b13
                    refine d_held (fun _ h => ⟨h.rd 5 rfl, h.at 1 rfl⟩) ?_
                    refine pull3 ?_
                    refine d_e rfl ?_
                    refine e_append rfl rfl rfl Try.underlying26 Try.underlying26 info52 rfl rfl rfl rfl rfl (fun _ h => lit_rd (h.at 1 rfl) Ev.enc [(mkE c dn true a3 (by omega) (by omega))] rfl rfl) (by simp only [byt52, List.length_append, List.length_cons, List.length_nil]; omega) (by simp only [List.length_append, List.length_cons, List.length_nil]; omega) ?_
                    intro v2
                    refine pull1 ?_
                    refine drop0 ?_
                    refine d_held (fun _ h => ⟨h.rd 4 rfl, h.at 1 rfl⟩) ?_
                    refine d_q rfl (q_assign rfl rfl) rfl rfl ?_
                    refine d_nil ?_
                    refine k_then ?_
                    refine c_seq ?_
                    refine c_region _ rfl ?_
                    refine l_q rfl (q_move rfl rfl) rfl rfl ?_
                    refine l_q rfl (q_move rfl rfl) rfl rfl ?_
                    refine l_q rfl (q_indexV c rfl Try.underlying22 Try.sizeOf3 rfl (fun _ h => h.rd 4 rfl) rfl rfl (by omega)) rfl rfl ?_
                    refine l_q rfl (q_loadV c 0 rfl Try.isAgg3 rfl rfl (fun _ h => h.rd 4 rfl) hdc rfl) rfl rfl ?_
                    refine l_q rfl (q_inc rfl rfl rfl (by omega)) rfl rfl ?_
                    refine l_q rfl (q_indexV c rfl Try.underlying22 Try.sizeOf3 rfl (fun _ h => h.rd 4 rfl) rfl rfl (by omega)) rfl rfl ?_
                    refine pull4 ?_
                    refine l_e rfl ?_
                    refine e_storeV c 0 (((dn + 1 : Nat) : Int)) rfl rfl Try.sizeOf3 rfl rfl rfl (List.getElem?_eq_getElem (by omega)) (by decide) rfl ?_
                    refine l_nil ?_
                    refine k_then ?_
                    refine c_exit ?_
                    refine k_then_exit ?_
                    refine k_block_exit ?_
                    refine k_then ?_
                    refine c_region _ rfl ?_
                    refine l_q rfl (q_move rfl rfl) rfl rfl ?_
                    refine l_q rfl (q_inc rfl rfl rfl (by omega)) rfl rfl ?_
                    refine l_q rfl (q_assign rfl rfl) rfl rfl ?_
                    refine l_nil ?_
                    refine pull2 ?_
                    refine drop0 ?_
                    refine pull2 ?_
                    refine drop0 ?_
                    refine pull2 ?_
                    refine pull2 ?_
                    exact k_round ((i + 1, v2, E ++ [mkE c dn true a3 (by omega) (by omega)], B, D.set c (dn + 1))) (by dsimp only; omega) ⟨by dsimp only; omega, by dsimp only; rw [List.length_append]; simp only [List.length_cons, List.length_nil]; omega, by dsimp only; omega, hBl, by dsimp only; rw [List.length_set]; exact hDl, hfit⟩ (Sub.cons rfl (Sub.cons rfl (Sub.cons rfl (Sub.cons rfl (Sub.cons rfl (Sub.cons rfl (Sub.nil))))))) (fun _ h => by dsimp only; rw [nI_set]; exact h)
                  · try simp only [decide_eq_true_eq, decide_eq_false_iff_not, Bool.not_eq_true', Bool.not_eq_false'] at h11
                    refine c_false rfl ?_
                    refine c_skip ?_
                    refine k_then ?_
                    refine c_seq ?_
                    refine c_draw [(0, some true), (1, some true), (2, some true), (3, some true), (4, some true), (5, some true), (6, some true), (7, some true), (8, some false), (9, some false), (10, some true)] [] [(_, some true), (_, some true), (_, some true), (_, some true), (_, some true), (_, some true), (_, some true), (_, some true), (_, some false), (_, some false), (_, some true)] (fun w2 => RdV w2 vd (encI .i64) (nI D) ∧ (cellsE ba 45 a2.c).at w2) (blind_then (blind_then (blind_block (blind_then (blind_then (blind_block (blind_then blind_body))))))) rfl (by kernel_rfl) (by kernel_rfl) rfl rfl rfl (by kernel_rfl) St.drawn (fun _ h => ⟨h.rd 4 rfl, h.at 0 rfl⟩) ?_
                    refine d_q rfl (q_move rfl rfl) rfl rfl ?_
                    refine d_q rfl (q_move rfl rfl) rfl rfl ?_
                    refine d_q rfl (q_move rfl rfl) rfl rfl ?_
                    refine d_q rfl (q_move rfl rfl) rfl rfl ?_
                    refine d_q rfl (q_indexV c rfl Try.underlying22 Try.sizeOf3 rfl (fun _ h => h.1) rfl rfl (by omega)) rfl rfl ?_
                    refine d_q rfl (q_loadV c 0 rfl Try.isAgg3 rfl rfl (fun _ h => h.1) hdc rfl) rfl rfl ?_
                    refine d_q rfl (q_loadCAgg (a2.c) rfl Try.isAgg45 Try.sizeOf45 rfl (fun _ h => h.2) (List.take_of_length_le (by rw [List.drop_zero, An.c_len]; exact Nat.le_refl _)) (An.c_len _)) rfl rfl ?_
                    refine d_q rfl (q_build ((mkE c dn true a2 (by omega) (by omega)).c) rfl rfl (fun w => buildE c dn a2 (by omega) (by omega) w)) rfl rfl ?_
                    refine d_e rfl ?_
                    refine e_buildSliceV (sz := 22) [.tmp 106] rfl rfl rfl rfl rfl Try.underlying26 Try.sizeOf52 rfl Try.zeroValue52 (by simp [Value.cells, Ev.c_len]) ?_
                    intro b15
                    refine d_held (fun _ h => ⟨h.rd 5 rfl, h.at 1 rfl⟩) ?_
                    refine pull3 ?_
                    refine d_e rfl ?_
                    refine e_append rfl rfl rfl Try.underlying26 Try.underlying26 info52 rfl rfl rfl rfl rfl (fun _ h => lit_rd (h.at 1 rfl) Ev.enc [(mkE c dn true a2 (by omega) (by omega))] rfl rfl) (by simp only [byt52, List.length_append, List.length_cons, List.length_nil]; omega) (by simp only [List.length_append, List.length_cons, List.length_nil]; omega) ?_
                    intro v2
                    refine pull1 ?_
                    refine drop0 ?_
                    refine d_held (fun _ h => ⟨h.rd 4 rfl, h.at 1 rfl⟩) ?_
                    refine d_q rfl (q_assign rfl rfl) rfl rfl ?_
                    refine d_nil ?_
                    refine k_then ?_
                    refine c_seq ?_
                    refine c_region _ rfl ?_
                    refine l_q rfl (q_move rfl rfl) rfl rfl ?_
                    refine l_q rfl (q_move rfl rfl) rfl rfl ?_
                    refine l_q rfl (q_indexV c rfl Try.underlying22 Try.sizeOf3 rfl (fun _ h => h.rd 4 rfl) rfl rfl (by omega)) rfl rfl ?_
                    refine l_q rfl (q_loadV c 0 rfl Try.isAgg3 rfl rfl (fun _ h => h.rd 4 rfl) hdc rfl) rfl rfl ?_
                    refine l_q rfl (q_inc rfl rfl rfl (by omega)) rfl rfl ?_
                    refine l_q rfl (q_indexV c rfl Try.underlying22 Try.sizeOf3 rfl (fun _ h => h.rd 4 rfl) rfl rfl (by omega)) rfl rfl ?_
                    refine pull4 ?_
                    refine l_e rfl ?_
                    refine e_storeV c 0 (((dn + 1 : Nat) : Int)) rfl rfl Try.sizeOf3 rfl rfl rfl (List.getElem?_eq_getElem (by omega)) (by decide) rfl ?_
                    refine l_nil ?_
                    refine k_then ?_
                    refine c_exit ?_
                    refine k_then_exit ?_
                    refine k_block_exit ?_
                    refine k_then ?_
                    refine c_region _ rfl ?_
                    refine l_q rfl (q_move rfl rfl) rfl rfl ?_
                    refine l_q rfl (q_inc rfl rfl rfl (by omega)) rfl rfl ?_
                    refine l_q rfl (q_assign rfl rfl) rfl rfl ?_
                    refine l_nil ?_
                    refine pull2 ?_
                    refine drop0 ?_
                    refine pull2 ?_
                    refine drop0 ?_
                    refine pull2 ?_
                    refine pull2 ?_
                    exact k_round ((i + 1, v2, E ++ [mkE c dn true a2 (by omega) (by omega)], B, D.set c (dn + 1))) (by dsimp only; omega) ⟨by dsimp only; omega, by dsimp only; rw [List.length_append]; simp only [List.length_cons, List.length_nil]; omega, by dsimp only; omega, hBl, by dsimp only; rw [List.length_set]; exact hDl, hfit⟩ (Sub.cons rfl (Sub.cons rfl (Sub.cons rfl (Sub.cons rfl (Sub.cons rfl (Sub.cons rfl (Sub.nil))))))) (fun _ h => by dsimp only; rw [nI_set]; exact h)
                · try simp only [decide_eq_true_eq, decide_eq_false_iff_not, Bool.not_eq_true', Bool.not_eq_false'] at h10
                  refine c_false rfl ?_
                  refine c_seq ?_
                  refine c_region _ rfl ?_
                  refine l_q rfl (q_fieldAddr rfl Try.underlying37 rfl Try.sizeOf3 rfl rfl) rfl rfl ?_
                  refine l_q rfl (q_loadC rfl Try.isAgg3 rfl (fun _ h => h.at 1 rfl) rfl) rfl rfl ?_
                  refine l_q rfl (q_neq rfl rfl rfl) rfl rfl ?_
                  refine l_q rfl (q_move rfl rfl) rfl rfl ?_
                  refine Pre.caseB 88 rfl (fun h16 => ?_) (fun h16 => ?_)
                  · try simp only [decide_eq_true_eq, decide_eq_false_iff_not, Bool.not_eq_true', Bool.not_eq_false'] at h16
                    refine l_q rfl (q_move rfl rfl) rfl rfl ?_
                    refine l_q rfl (q_rem_nn rfl rfl rfl (by omega) (by omega)) rfl rfl ?_
                    refine l_q rfl (q_eql rfl rfl rfl) rfl rfl ?_
                    refine l_q rfl (q_pick_t rfl rfl rfl) rfl rfl ?_
                    refine l_q rfl (q_assign rfl rfl) rfl rfl ?_
                    refine l_nil ?_
                    refine k_then ?_
                    refine Pre.caseB 84 rfl (fun h17 => ?_) (fun h17 => ?_)
                    · try simp only [decide_eq_true_eq, decide_eq_false_iff_not, Bool.not_eq_true', Bool.not_eq_false'] at h17
                      refine c_true rfl ?_
                      refine c_region _ rfl ?_
                      refine l_q rfl (q_fieldAddr rfl Try.underlying45 rfl Try.sizeOf40 rfl rfl) rfl rfl ?_
                      obtain ⟨a1, ha1⟩ := an_code an0 3 (by first | decide | exact wf_n8 (k := kk / 8) (by omega) | (simp only [Lit.wf, Bool.and_eq_true, decide_eq_true_eq]; exact ⟨by show (-2 ^ 63 : Int) ≤ _; omega, by show _ ≤ (2 ^ 63 - 1 : Int); omega⟩))
                      refine l_e rfl ?_
                      refine e_store rfl rfl Try.sizeOf40 rfl rfl rfl (by show 0 + 0 < (An.c an0).length; rw [An.c_len]; decide) ?_
                      refine cells_eq (ha1) ?_
                      refine l_nil ?_
                      refine k_block ?_
                      refine k_then ?_
                      refine c_seq ?_
                      refine c_seq ?_
                      refine c_region _ rfl ?_
                      refine l_q rfl (q_move rfl rfl) rfl rfl ?_
                      refine l_q rfl (q_eql rfl rfl rfl) rfl rfl ?_
                      refine l_nil ?_
                      refine k_then ?_
                      refine Pre.caseB 95 rfl (fun h18 => ?_) (fun h18 => ?_)
                      · try simp only [decide_eq_true_eq, decide_eq_false_iff_not, Bool.not_eq_true', Bool.not_eq_false'] at h18
                        refine c_true rfl ?_
                        refine c_region _ rfl ?_
                        refine l_q rfl (q_move rfl rfl) rfl rfl ?_
                        refine l_q rfl (q_quo_nn rfl rfl rfl (by omega) (by omega) (by omega)) rfl rfl ?_
                        refine l_q rfl (q_fieldAddr rfl Try.underlying45 rfl Try.sizeOf40 rfl rfl) rfl rfl ?_
                        obtain ⟨a2, ha2⟩ := an_code a1 ((kk : Int) / 8) (by first | decide | exact wf_n8 (k := kk / 8) (by omega) | (simp only [Lit.wf, Bool.and_eq_true, decide_eq_true_eq]; exact ⟨by show (-2 ^ 63 : Int) ≤ _; omega, by show _ ≤ (2 ^ 63 - 1 : Int); omega⟩))
                        refine l_e rfl ?_
                        refine e_store rfl rfl Try.sizeOf40 rfl rfl rfl (by show 0 + 0 < (An.c a1).length; rw [An.c_len]; decide) ?_
                        refine cells_eq (ha2) ?_
                        refine l_nil ?_
                        refine k_then ?_
                        refine c_seq ?_
                        refine c_draw [(0, some true), (1, some true), (2, some true), (3, some true), (4, some true), (5, some true), (6, some true), (7, some true), (8, some false), (9, some false), (10, some true)] [] [(_, some true), (_, some true), (_, some true), (_, some true), (_, some true), (_, some true), (_, some true), (_, some true), (_, some false), (_, some false), (_, some true)] (fun w2 => RdV w2 vd (encI .i64) (nI D) ∧ (cellsE ba 45 a2.c).at w2) (blind_then (blind_then (blind_block (blind_then (blind_then (blind_block (blind_then blind_body))))))) rfl (by kernel_rfl) (by kernel_rfl) rfl rfl rfl (by kernel_rfl) St.drawn (fun _ h => ⟨h.rd 4 rfl, h.at 0 rfl⟩) ?_
                        refine d_q rfl (q_move rfl rfl) rfl rfl ?_
                        refine d_q rfl (q_move rfl rfl) rfl rfl ?_
                        refine d_q rfl (q_move rfl rfl) rfl rfl ?_
                        refine d_q rfl (q_move rfl rfl) rfl rfl ?_
                        refine d_q rfl (q_indexV c rfl Try.underlying22 Try.sizeOf3 rfl (fun _ h => h.1) rfl rfl (by omega)) rfl rfl ?_
                        refine d_q rfl (q_loadV c 0 rfl Try.isAgg3 rfl rfl (fun _ h => h.1) hdc rfl) rfl rfl ?_
                        refine d_q rfl (q_loadCAgg (a2.c) rfl Try.isAgg45 Try.sizeOf45 rfl (fun _ h => h.2) (List.take_of_length_le (by rw [List.drop_zero, An.c_len]; exact Nat.le_refl _)) (An.c_len _)) rfl rfl ?_
                        refine d_q rfl (q_build ((mkE c dn true a2 (by omega) (by omega)).c) rfl rfl (fun w => buildE c dn a2 (by omega) (by omega) w)) rfl rfl ?_
                        refine d_e rfl ?_
                        refine e_buildSliceV (sz := 22) [.tmp 106] rfl rfl rfl rfl rfl Try.underlying26 Try.sizeOf52 rfl Try.zeroValue52 (by simp [Value.cells, Ev.c_len]) ?_
                        intro b20
                        refine d_held (fun _ h => ⟨h.rd 5 rfl, h.at 1 rfl⟩) ?_
                        refine pull3 ?_
                        refine d_e rfl ?_
                        refine e_append rfl rfl rfl Try.underlying26 Try.underlying26 info52 rfl rfl rfl rfl rfl (fun _ h => lit_rd (h.at 1 rfl) Ev.enc [(mkE c dn true a2 (by omega) (by omega))] rfl rfl) (by simp only [byt52, List.length_append, List.length_cons, List.length_nil]; omega) (by simp only [List.length_append, List.length_cons, List.length_nil]; omega) ?_
                        intro v2
                        refine pull1 ?_
                        refine drop0 ?_
                        refine d_held (fun _ h => ⟨h.rd 4 rfl, h.at 1 rfl⟩) ?_
                        refine d_q rfl (q_assign rfl rfl) rfl rfl ?_
                        refine d_nil ?_
                        refine k_then ?_
                        refine c_seq ?_
                        refine c_region _ rfl ?_
                        refine l_q rfl (q_move rfl rfl) rfl rfl ?_
                        refine l_q rfl (q_move rfl rfl) rfl rfl ?_
                        refine l_q rfl (q_indexV c rfl Try.underlying22 Try.sizeOf3 rfl (fun _ h => h.rd 4 rfl) rfl rfl (by omega)) rfl rfl ?_
                        refine l_q rfl (q_loadV c 0 rfl Try.isAgg3 rfl rfl (fun _ h => h.rd 4 rfl) hdc rfl) rfl rfl ?_
                        refine l_q rfl (q_inc rfl rfl rfl (by omega)) rfl rfl ?_
                        refine l_q rfl (q_indexV c rfl Try.underlying22 Try.sizeOf3 rfl (fun _ h => h.rd 4 rfl) rfl rfl (by omega)) rfl rfl ?_
                        refine pull4 ?_
                        refine l_e rfl ?_
                        refine e_storeV c 0 (((dn + 1 : Nat) : Int)) rfl rfl Try.sizeOf3 rfl rfl rfl (List.getElem?_eq_getElem (by omega)) (by decide) rfl ?_
                        refine l_nil ?_
                        refine k_then ?_
                        refine c_exit ?_
                        refine k_then_exit ?_
                        refine k_block_exit ?_
                        refine k_then ?_
                        refine c_region _ rfl ?_
                        refine l_q rfl (q_move rfl rfl) rfl rfl ?_
                        refine l_q rfl (q_inc rfl rfl rfl (by omega)) rfl rfl ?_
                        refine l_q rfl (q_assign rfl rfl) rfl rfl ?_
                        refine l_nil ?_
                        refine pull2 ?_
                        refine drop0 ?_
                        refine pull2 ?_
                        refine drop0 ?_
                        refine pull2 ?_
                        refine pull2 ?_
                        exact k_round ((i + 1, v2, E ++ [mkE c dn true a2 (by omega) (by omega)], B, D.set c (dn + 1))) (by dsimp only; omega) ⟨by dsimp only; omega, by dsimp only; rw [List.length_append]; simp only [List.length_cons, List.length_nil]; omega, by dsimp only; omega, hBl, by dsimp only; rw [List.length_set]; exact hDl, hfit⟩ (Sub.cons rfl (Sub.cons rfl (Sub.cons rfl (Sub.cons rfl (Sub.cons rfl (Sub.cons rfl (Sub.nil))))))) (fun _ h => by dsimp only; rw [nI_set]; exact h)
                      · try simp only [decide_eq_true_eq, decide_eq_false_iff_not, Bool.not_eq_true', Bool.not_eq_false'] at h18
                        refine c_false rfl ?_
                        refine c_skip ?_
                        refine k_then ?_
                        refine c_seq ?_
                        refine c_draw [(0, some true), (1, some true), (2, some true), (3, some true), (4, some true), (5, some true), (6, some true), (7, some true), (8, some false), (9, some false), (10, some true)] [] [(_, some true), (_, some true), (_, some true), (_, some true), (_, some true), (_, some true), (_, some true), (_, some true), (_, some false), (_, some false), (_, some true)] (fun w2 => RdV w2 vd (encI .i64) (nI D) ∧ (cellsE ba 45 a1.c).at w2) (blind_then (blind_then (blind_block (blind_then (blind_then (blind_block (blind_then blind_body))))))) rfl (by kernel_rfl) (by kernel_rfl) rfl rfl rfl (by kernel_rfl) St.drawn (fun _ h => ⟨h.rd 4 rfl, h.at 0 rfl⟩) ?_
                        refine d_q rfl (q_move rfl rfl) rfl rfl ?_
                        refine d_q rfl (q_move rfl rfl) rfl rfl ?_
                        refine d_q rfl (q_move rfl rfl) rfl rfl ?_
                        refine d_q rfl (q_move rfl rfl) rfl rfl ?_
                        refine d_q rfl (q_indexV c rfl Try.underlying22 Try.sizeOf3 rfl (fun _ h => h.1) rfl rfl (by omega)) rfl rfl ?_
                        refine d_q rfl (q_loadV c 0 rfl Try.isAgg3 rfl rfl (fun _ h => h.1) hdc rfl) rfl rfl ?_
                        refine d_q rfl (q_loadCAgg (a1.c) rfl Try.isAgg45 Try.sizeOf45 rfl (fun _ h => h.2) (List.take_of_length_le (by rw [List.drop_zero, An.c_len]; exact Nat.le_refl _)) (An.c_len _)) rfl rfl ?_
                        refine d_q rfl (q_build ((mkE c dn true a1 (by omega) (by omega)).c) rfl rfl (fun w => buildE c dn a1 (by omega) (by omega) w)) rfl rfl ?_
                        refine d_e rfl ?_
                        refine e_buildSliceV (sz := 22) [.tmp 106] rfl rfl rfl rfl rfl Try.underlying26 Try.sizeOf52 rfl Try.zeroValue52 (by simp [Value.cells, Ev.c_len]) ?_
                        intro b22
                        refine d_held (fun _ h => ⟨h.rd 5 rfl, h.at 1 rfl⟩) ?_
                        refine pull3 ?_
                        refine d_e rfl ?_
                        refine e_append rfl rfl rfl Try.underlying26 Try.underlying26 info52 rfl rfl rfl rfl rfl (fun _ h => lit_rd (h.at 1 rfl) Ev.enc [(mkE c dn true a1 (by omega) (by omega))] rfl rfl) (by simp only [byt52, List.length_append, List.length_cons, List.length_nil]; omega) (by simp only [List.length_append, List.length_cons, List.length_nil]; omega) ?_
                        intro v2
                        refine pull1 ?_
                        refine drop0 ?_
                        refine d_held (fun _ h => ⟨h.rd 4 rfl, h.at 1 rfl⟩) ?_
                        refine d_q rfl (q_assign rfl rfl) rfl rfl ?_
                        refine d_nil ?_
                        refine k_then ?_
                        refine c_seq ?_
                        refine c_region _ rfl ?_
                        refine l_q rfl (q_move rfl rfl) rfl rfl ?_
                        refine l_q rfl (q_move rfl rfl) rfl rfl ?_
                        refine l_q rfl (q_indexV c rfl Try.underlying22 Try.sizeOf3 rfl (fun _ h => h.rd 4 rfl) rfl rfl (by omega)) rfl rfl ?_
                        refine l_q rfl (q_loadV c 0 rfl Try.isAgg3 rfl rfl (fun _ h => h.rd 4 rfl) hdc rfl) rfl rfl ?_
                        refine l_q rfl (q_inc rfl rfl rfl (by omega)) rfl rfl ?_
                        refine l_q rfl (q_indexV c rfl Try.underlying22 Try.sizeOf3 rfl (fun _ h => h.rd 4 rfl) rfl rfl (by omega)) rfl rfl ?_
                        refine pull4 ?_
                        refine l_e rfl ?_
                        refine e_storeV c 0 (((dn + 1 : Nat) : Int)) rfl rfl Try.sizeOf3 rfl rfl rfl (List.getElem?_eq_getElem (by omega)) (by decide) rfl ?_
                        refine l_nil ?_
                        refine k_then ?_
                        refine c_exit ?_
                        refine k_then_exit ?_
                        refine k_block_exit ?_
                        refine k_then ?_
                        refine c_region _ rfl ?_
                        refine l_q rfl (q_move rfl rfl) rfl rfl ?_
                        refine l_q rfl (q_inc rfl rfl rfl (by omega)) rfl rfl ?_
                        refine l_q rfl (q_assign rfl rfl) rfl rfl ?_
                        refine l_nil ?_
                        refine pull2 ?_
                        refine drop0 ?_
                        refine pull2 ?_
                        refine drop0 ?_
                        refine pull2 ?_
                        refine pull2 ?_
                        exact k_round ((i + 1, v2, E ++ [mkE c dn true a1 (by omega) (by omega)], B, D.set c (dn + 1))) (by dsimp only; omega) ⟨by dsimp only; omega, by dsimp only; rw [List.length_append]; simp only [List.length_cons, List.length_nil]; omega, by dsimp only; omega, hBl, by dsimp only; rw [List.length_set]; exact hDl, hfit⟩ (Sub.cons rfl (Sub.cons rfl (Sub.cons rfl (Sub.cons rfl (Sub.cons rfl (Sub.cons rfl (Sub.nil))))))) (fun _ h => by dsimp only; rw [nI_set]; exact h)
                    · try simp only [decide_eq_true_eq, decide_eq_false_iff_not, Bool.not_eq_true', Bool.not_eq_false'] at h17
                      refine c_false rfl ?_
                      refine c_skip ?_
                      refine k_block ?_
                      refine k_then ?_
                      refine c_seq ?_
                      refine c_seq ?_
                      refine c_region _ rfl ?_
                      refine l_q rfl (q_move rfl rfl) rfl rfl ?_
                      refine l_q rfl (q_eql rfl rfl rfl) rfl rfl ?_
                      refine l_nil ?_
                      refine k_then ?_
                      refine Pre.caseB 95 rfl (fun h23 => ?_) (fun h23 => ?_)
                      · try simp only [decide_eq_true_eq, decide_eq_false_iff_not, Bool.not_eq_true', Bool.not_eq_false'] at h23
                        refine c_true rfl ?_
                        refine c_region _ rfl ?_
                        refine l_q rfl (q_move rfl rfl) rfl rfl ?_
                        refine l_q rfl (q_quo_nn rfl rfl rfl (by omega) (by omega) (by omega)) rfl rfl ?_
                        refine l_q rfl (q_fieldAddr rfl Try.underlying45 rfl Try.sizeOf40 rfl rfl) rfl rfl ?_
                        obtain ⟨a1, ha1⟩ := an_code an0 ((kk : Int) / 8) (by first | decide | exact wf_n8 (k := kk / 8) (by omega) | (simp only [Lit.wf, Bool.and_eq_true, decide_eq_true_eq]; exact ⟨by show (-2 ^ 63 : Int) ≤ _; omega, by show _ ≤ (2 ^ 63 - 1 : Int); omega⟩))
                        refine l_e rfl ?_
                        refine e_store rfl rfl Try.sizeOf40 rfl rfl rfl (by show 0 + 0 < (An.c an0).length; rw [An.c_len]; decide) ?_
                        refine cells_eq (ha1) ?_
                        refine l_nil ?_
                        refine k_then ?_
                        refine c_seq ?_
                        refine c_draw [(0, some true), (1, some true), (2, some true), (3, some true), (4, some true), (5, some true), (6, some true), (7, some true), (8, some false), (9, some false), (10, some true)] [] [(_, some true), (_, some true), (_, some true), (_, some true), (_, some true), (_, some true), (_, some true), (_, some true), (_, some false), (_, some false), (_, some true)] (fun w2 => RdV w2 vd (encI .i64) (nI D) ∧ (cellsE ba 45 a1.c).at w2) (blind_then (blind_then (blind_block (blind_then (blind_then (blind_block (blind_then blind_body))))))) rfl (by kernel_rfl) (by kernel_rfl) rfl rfl rfl (by kernel_rfl) St.drawn (fun _ h => ⟨h.rd 4 rfl, h.at 0 rfl⟩) ?_
                        refine d_q rfl (q_move rfl rfl) rfl rfl ?_
                        refine d_q rfl (q_move rfl rfl) rfl rfl ?_
                        refine d_q rfl (q_move rfl rfl) rfl rfl ?_
                        refine d_q rfl (q_move rfl rfl) rfl rfl ?_
                        refine d_q rfl (q_indexV c rfl Try.underlying22 Try.sizeOf3 rfl (fun _ h => h.1) rfl rfl (by omega)) rfl rfl ?_
                        refine d_q rfl (q_loadV c 0 rfl Try.isAgg3 rfl rfl (fun _ h => h.1) hdc rfl) rfl rfl ?_
                        refine d_q rfl (q_loadCAgg (a1.c) rfl Try.isAgg45 Try.sizeOf45 rfl (fun _ h => h.2) (List.take_of_length_le (by rw [List.drop_zero, An.c_len]; exact Nat.le_refl _)) (An.c_len _)) rfl rfl ?_
                        refine d_q rfl (q_build ((mkE c dn true a1 (by omega) (by omega)).c) rfl rfl (fun w => buildE c dn a1 (by omega) (by omega) w)) rfl rfl ?_
                        refine d_e rfl ?_
                        refine e_buildSliceV (sz := 22) [.tmp 106] rfl rfl rfl rfl rfl Try.underlying26 Try.sizeOf52 rfl Try.zeroValue52 (by simp [Value.cells, Ev.c_len]) ?_
                        intro b25
                        refine d_held (fun _ h => ⟨h.rd 5 rfl, h.at 1 rfl⟩) ?_
                        refine pull3 ?_
                        refine d_e rfl ?_
                        refine e_append rfl rfl rfl Try.underlying26 Try.underlying26 info52 rfl rfl rfl rfl rfl (fun _ h => lit_rd (h.at 1 rfl) Ev.enc [(mkE c dn true a1 (by omega) (by omega))] rfl rfl) (by simp only [byt52, List.length_append, List.length_cons, List.length_nil]; omega) (by simp only [List.length_append, List.length_cons, List.length_nil]; omega) ?_
                        intro v2
                        refine pull1 ?_
                        refine drop0 ?_
                        refine d_held (fun _ h => ⟨h.rd 4 rfl, h.at 1 rfl⟩) ?_
                        refine d_q rfl (q_assign rfl rfl) rfl rfl ?_
                        refine d_nil ?_
                        refine k_then ?_
                        refine c_seq ?_
                        refine c_region _ rfl ?_
                        refine l_q rfl (q_move rfl rfl) rfl rfl ?_
                        refine l_q rfl (q_move rfl rfl) rfl rfl ?_
                        refine l_q rfl (q_indexV c rfl Try.underlying22 Try.sizeOf3 rfl (fun _ h => h.rd 4 rfl) rfl rfl (by omega)) rfl rfl ?_
                        refine l_q rfl (q_loadV c 0 rfl Try.isAgg3 rfl rfl (fun _ h => h.rd 4 rfl) hdc rfl) rfl rfl ?_
                        refine l_q rfl (q_inc rfl rfl rfl (by omega)) rfl rfl ?_
                        refine l_q rfl (q_indexV c rfl Try.underlying22 Try.sizeOf3 rfl (fun _ h => h.rd 4 rfl) rfl rfl (by omega)) rfl rfl ?_
                        refine pull4 ?_
                        refine l_e rfl ?_
                        refine e_storeV c 0 (((dn + 1 : Nat) : Int)) rfl rfl Try.sizeOf3 rfl rfl rfl (List.getElem?_eq_getElem (by omega)) (by decide) rfl ?_
                        refine l_nil ?_
                        refine k_then ?_
                        refine c_exit ?_
                        refine k_then_exit ?_
                        refine k_block_exit ?_
                        refine k_then ?_
                        refine c_region _ rfl ?_
                        refine l_q rfl (q_move rfl rfl) rfl rfl ?_
                        refine l_q rfl (q_inc rfl rfl rfl (by omega)) rfl rfl ?_
                        refine l_q rfl (q_assign rfl rfl) rfl rfl ?_
                        refine l_nil ?_
                        refine pull2 ?_
                        refine drop0 ?_
                        refine pull2 ?_
                        refine drop0 ?_
                        refine pull2 ?_
                        refine pull2 ?_
                        exact k_round ((i + 1, v2, E ++ [mkE c dn true a1 (by omega) (by omega)], B, D.set c (dn + 1))) (by dsimp only; omega) ⟨by dsimp only; omega, by dsimp only; rw [List.length_append]; simp only [List.length_cons, List.length_nil]; omega, by dsimp only; omega, hBl, by dsimp only; rw [List.length_set]; exact hDl, hfit⟩ (Sub.cons rfl (Sub.cons rfl (Sub.cons rfl (Sub.cons rfl (Sub.cons rfl (Sub.cons rfl (Sub.nil))))))) (fun _ h => by dsimp only; rw [nI_set]; exact h)
                      · try simp only [decide_eq_true_eq, decide_eq_false_iff_not, Bool.not_eq_true', Bool.not_eq_false'] at h23
                        refine c_false rfl ?_
                        refine c_skip ?_
                        refine k_then ?_
                        refine c_seq ?_
                        refine c_draw [(0, some true), (1, some true), (2, some true), (3, some true), (4, some true), (5, some true), (6, some true), (7, some true), (8, some false), (9, some false), (10, some true)] [] [(_, some true), (_, some true), (_, some true), (_, some true), (_, some true), (_, some true), (_, some true), (_, some true), (_, some false), (_, some false), (_, some true)] (fun w2 => RdV w2 vd (encI .i64) (nI D) ∧ (cellsE ba 45 an0.c).at w2) (blind_then (blind_then (blind_block (blind_then (blind_then (blind_block (blind_then blind_body))))))) rfl (by kernel_rfl) (by kernel_rfl) rfl rfl rfl (by kernel_rfl) St.drawn (fun _ h => ⟨h.rd 4 rfl, h.at 0 rfl⟩) ?_
                        refine d_q rfl (q_move rfl rfl) rfl rfl ?_
                        refine d_q rfl (q_move rfl rfl) rfl rfl ?_
                        refine d_q rfl (q_move rfl rfl) rfl rfl ?_
                        refine d_q rfl (q_move rfl rfl) rfl rfl ?_
                        refine d_q rfl (q_indexV c rfl Try.underlying22 Try.sizeOf3 rfl (fun _ h => h.1) rfl rfl (by omega)) rfl rfl ?_
                        refine d_q rfl (q_loadV c 0 rfl Try.isAgg3 rfl rfl (fun _ h => h.1) hdc rfl) rfl rfl ?_
                        refine d_q rfl (q_loadCAgg (an0.c) rfl Try.isAgg45 Try.sizeOf45 rfl (fun _ h => h.2) (List.take_of_length_le (by rw [List.drop_zero, An.c_len]; exact Nat.le_refl _)) (An.c_len _)) rfl rfl ?_
                        refine d_q rfl (q_build ((mkE c dn true an0 (by omega) (by omega)).c) rfl rfl (fun w => buildE c dn an0 (by omega) (by omega) w)) rfl rfl ?_
                        refine d_e rfl ?_
                        refine e_buildSliceV (sz := 22) [.tmp 106] rfl rfl rfl rfl rfl Try.underlying26 Try.sizeOf52 rfl Try.zeroValue52 (by simp [Value.cells, Ev.c_len]) ?_
                        intro b27
                        refine d_held (fun _ h => ⟨h.rd 5 rfl, h.at 1 rfl⟩) ?_
                        refine pull3 ?_
                        refine d_e rfl ?_
                        refine e_append rfl rfl rfl Try.underlying26 Try.underlying26 info52 rfl rfl rfl rfl rfl (fun _ h => lit_rd (h.at 1 rfl) Ev.enc [(mkE c dn true an0 (by omega) (by omega))] rfl rfl) (by simp only [byt52, List.length_append, List.length_cons, List.length_nil]; omega) (by simp only [List.length_append, List.length_cons, List.length_nil]; omega) ?_
                        intro v2
                        refine pull1 ?_
                        refine drop0 ?_
                        refine d_held (fun _ h => ⟨h.rd 4 rfl, h.at 1 rfl⟩) ?_
                        refine d_q rfl (q_assign rfl rfl) rfl rfl ?_
                        refine d_nil ?_
                        refine k_then ?_
                        refine c_seq ?_
                        refine c_region _ rfl ?_
                        refine l_q rfl (q_move rfl rfl) rfl rfl ?_
                        refine l_q rfl (q_move rfl rfl) rfl rfl ?_
                        refine l_q rfl (q_indexV c rfl Try.underlying22 Try.sizeOf3 rfl (fun _ h => h.rd 4 rfl) rfl rfl (by omega)) rfl rfl ?_
                        refine l_q rfl (q_loadV c 0 rfl Try.isAgg3 rfl rfl (fun _ h => h.rd 4 rfl) hdc rfl) rfl rfl ?_
                        refine l_q rfl (q_inc rfl rfl rfl (by omega)) rfl rfl ?_
                        refine l_q rfl (q_indexV c rfl Try.underlying22 Try.sizeOf3 rfl (fun _ h => h.rd 4 rfl) rfl rfl (by omega)) rfl rfl ?_
                        refine pull4 ?_
                        refine l_e rfl ?_
                        refine e_storeV c 0 (((dn + 1 : Nat) : Int)) rfl rfl Try.sizeOf3 rfl rfl rfl (List.getElem?_eq_getElem (by omega)) (by decide) rfl ?_
                        refine l_nil ?_
                        refine k_then ?_
                        refine c_exit ?_
                        refine k_then_exit ?_
                        refine k_block_exit ?_
                        refine k_then ?_
                        refine c_region _ rfl ?_
                        refine l_q rfl (q_move rfl rfl) rfl rfl ?_
                        refine l_q rfl (q_inc rfl rfl rfl (by omega)) rfl rfl ?_
                        refine l_q rfl (q_assign rfl rfl) rfl rfl ?_
                        refine l_nil ?_
                        refine pull2 ?_
                        refine drop0 ?_
                        refine pull2 ?_
                        refine drop0 ?_
                        refine pull2 ?_
                        refine pull2 ?_
                        exact k_round ((i + 1, v2, E ++ [mkE c dn true an0 (by omega) (by omega)], B, D.set c (dn + 1))) (by dsimp only; omega) ⟨by dsimp only; omega, by dsimp only; rw [List.length_append]; simp only [List.length_cons, List.length_nil]; omega, by dsimp only; omega, hBl, by dsimp only; rw [List.length_set]; exact hDl, hfit⟩ (Sub.cons rfl (Sub.cons rfl (Sub.cons rfl (Sub.cons rfl (Sub.cons rfl (Sub.cons rfl (Sub.nil))))))) (fun _ h => by dsimp only; rw [nI_set]; exact h)
                  · try simp only [decide_eq_true_eq, decide_eq_false_iff_not, Bool.not_eq_true', Bool.not_eq_false'] at h16
                    refine l_not rfl rfl rfl ?_
                    refine l_not rfl rfl rfl ?_
                    refine l_not rfl rfl rfl ?_
                    refine l_q rfl (q_pick_f rfl rfl rfl) rfl rfl ?_
                    refine l_q rfl (q_assign rfl rfl) rfl rfl ?_
                    refine l_nil ?_
                    refine k_then ?_
                    refine c_false rfl ?_
                    refine c_skip ?_
                    refine k_block ?_
                    refine k_then ?_
                    refine c_seq ?_
                    refine c_seq ?_
                    refine c_region _ rfl ?_
                    refine l_q rfl (q_move rfl rfl) rfl rfl ?_
                    refine l_q rfl (q_eql rfl rfl rfl) rfl rfl ?_
                    refine l_nil ?_
                    refine k_then ?_
                    refine Pre.caseB 95 rfl (fun h28 => ?_) (fun h28 => ?_)
                    · try simp only [decide_eq_true_eq, decide_eq_false_iff_not, Bool.not_eq_true', Bool.not_eq_false'] at h28
                      refine c_true rfl ?_
                      refine c_region _ rfl ?_
                      refine l_q rfl (q_move rfl rfl) rfl rfl ?_
                      refine l_q rfl (q_quo_nn rfl rfl rfl (by omega) (by omega) (by omega)) rfl rfl ?_
                      refine l_q rfl (q_fieldAddr rfl Try.underlying45 rfl Try.sizeOf40 rfl rfl) rfl rfl ?_
                      obtain ⟨a1, ha1⟩ := an_code an0 ((kk : Int) / 8) (by first | decide | exact wf_n8 (k := kk / 8) (by omega) | (simp only [Lit.wf, Bool.and_eq_true, decide_eq_true_eq]; exact ⟨by show (-2 ^ 63 : Int) ≤ _; omega, by show _ ≤ (2 ^ 63 - 1 : Int); omega⟩))
                      refine l_e rfl ?_
                      refine e_store rfl rfl Try.sizeOf40 rfl rfl rfl (by show 0 + 0 < (An.c an0).length; rw [An.c_len]; decide) ?_
                      refine cells_eq (ha1) ?_
                      refine l_nil ?_
                      refine k_then ?_
                      refine c_seq ?_
                      refine c_draw [(0, some true), (1, some true), (2, some true), (3, some true), (4, some true), (5, some true), (6, some true), (7, some true), (8, some false), (9, some false), (10, some true)] [] [(_, some true), (_, some true), (_, some true), (_, some true), (_, some true), (_, some true), (_, some true), (_, some true), (_, some false), (_, some false), (_, some true)] (fun w2 => RdV w2 vd (encI .i64) (nI D) ∧ (cellsE ba 45 a1.c).at w2) (blind_then (blind_then (blind_block (blind_then (blind_then (blind_block (blind_then blind_body))))))) rfl (by kernel_rfl) (by kernel_rfl) rfl rfl rfl (by kernel_rfl) St.drawn (fun _ h => ⟨h.rd 4 rfl, h.at 0 rfl⟩) ?_
                      refine d_q rfl (q_move rfl rfl) rfl rfl ?_
                      refine d_q rfl (q_move rfl rfl) rfl rfl ?_
                      refine d_q rfl (q_move rfl rfl) rfl rfl ?_
                      refine d_q rfl (q_move rfl rfl) rfl rfl ?_
                      refine d_q rfl (q_indexV c rfl Try.underlying22 Try.sizeOf3 rfl (fun _ h => h.1) rfl rfl (by omega)) rfl rfl ?_
                      refine d_q rfl (q_loadV c 0 rfl Try.isAgg3 rfl rfl (fun _ h => h.1) hdc rfl) rfl rfl ?_
                      refine d_q rfl (q_loadCAgg (a1.c) rfl Try.isAgg45 Try.sizeOf45 rfl (fun _ h => h.2) (List.take_of_length_le (by rw [List.drop_zero, An.c_len]; exact Nat.le_refl _)) (An.c_len _)) rfl rfl ?_
                      refine d_q rfl (q_build ((mkE c dn true a1 (by omega) (by omega)).c) rfl rfl (fun w => buildE c dn a1 (by omega) (by omega) w)) rfl rfl ?_
                      refine d_e rfl ?_
                      refine e_buildSliceV (sz := 22) [.tmp 106] rfl rfl rfl rfl rfl Try.underlying26 Try.sizeOf52 rfl Try.zeroValue52 (by simp [Value.cells, Ev.c_len]) ?_
                      intro b30
                      refine d_held (fun _ h => ⟨h.rd 5 rfl, h.at 1 rfl⟩) ?_
                      refine pull3 ?_
                      refine d_e rfl ?_
                      refine e_append rfl rfl rfl Try.underlying26 Try.underlying26 info52 rfl rfl rfl rfl rfl (fun _ h => lit_rd (h.at 1 rfl) Ev.enc [(mkE c dn true a1 (by omega) (by omega))] rfl rfl) (by simp only [byt52, List.length_append, List.length_cons, List.length_nil]; omega) (by simp only [List.length_append, List.length_cons, List.length_nil]; omega) ?_
                      intro v2
                      refine pull1 ?_
                      refine drop0 ?_
                      refine d_held (fun _ h => ⟨h.rd 4 rfl, h.at 1 rfl⟩) ?_
                      refine d_q rfl (q_assign rfl rfl) rfl rfl ?_
                      refine d_nil ?_
                      refine k_then ?_
                      refine c_seq ?_
                      refine c_region _ rfl ?_
                      refine l_q rfl (q_move rfl rfl) rfl rfl ?_
                      refine l_q rfl (q_move rfl rfl) rfl rfl ?_
                      refine l_q rfl (q_indexV c rfl Try.underlying22 Try.sizeOf3 rfl (fun _ h => h.rd 4 rfl) rfl rfl (by omega)) rfl rfl ?_
                      refine l_q rfl (q_loadV c 0 rfl Try.isAgg3 rfl rfl (fun _ h => h.rd 4 rfl) hdc rfl) rfl rfl ?_
                      refine l_q rfl (q_inc rfl rfl rfl (by omega)) rfl rfl ?_
                      refine l_q rfl (q_indexV c rfl Try.underlying22 Try.sizeOf3 rfl (fun _ h => h.rd 4 rfl) rfl rfl (by omega)) rfl rfl ?_
                      refine pull4 ?_
                      refine l_e rfl ?_
                      refine e_storeV c 0 (((dn + 1 : Nat) : Int)) rfl rfl Try.sizeOf3 rfl rfl rfl (List.getElem?_eq_getElem (by omega)) (by decide) rfl ?_
                      refine l_nil ?_
                      refine k_then ?_
                      refine c_exit ?_
                      refine k_then_exit ?_
                      refine k_block_exit ?_
                      refine k_then ?_
                      refine c_region _ rfl ?_
                      refine l_q rfl (q_move rfl rfl) rfl rfl ?_
                      refine l_q rfl (q_inc rfl rfl rfl (by omega)) rfl rfl ?_
                      refine l_q rfl (q_assign rfl rfl) rfl rfl ?_
                      refine l_nil ?_
                      refine pull2 ?_
                      refine drop0 ?_
                      refine pull2 ?_
                      refine drop0 ?_
                      refine pull2 ?_
                      refine pull2 ?_
                      exact k_round ((i + 1, v2, E ++ [mkE c dn true a1 (by omega) (by omega)], B, D.set c (dn + 1))) (by dsimp only; omega) ⟨by dsimp only; omega, by dsimp only; rw [List.length_append]; simp only [List.length_cons, List.length_nil]; omega, by dsimp only; omega, hBl, by dsimp only; rw [List.length_set]; exact hDl, hfit⟩ (Sub.cons rfl (Sub.cons rfl (Sub.cons rfl (Sub.cons rfl (Sub.cons rfl (Sub.cons rfl (Sub.nil))))))) (fun _ h => by dsimp only; rw [nI_set]; exact h)
                    · try simp only [decide_eq_true_eq, decide_eq_false_iff_not, Bool.not_eq_true', Bool.not_eq_false'] at h28
                      refine c_false rfl ?_
                      refine c_skip ?_
                      refine k_then ?_
                      refine c_seq ?_
                      refine c_draw [(0, some true), (1, some true), (2, some true), (3, some true), (4, some true), (5, some true), (6, some true), (7, some true), (8, some false), (9, some false), (10, some true)] [] [(_, some true), (_, some true), (_, some true), (_, some true), (_, some true), (_, some true), (_, some true), (_, some true), (_, some false), (_, some false), (_, some true)] (fun w2 => RdV w2 vd (encI .i64) (nI D) ∧ (cellsE ba 45 an0.c).at w2) (blind_then (blind_then (blind_block (blind_then (blind_then (blind_block (blind_then blind_body))))))) rfl (by kernel_rfl) (by kernel_rfl) rfl rfl rfl (by kernel_rfl) St.drawn (fun _ h => ⟨h.rd 4 rfl, h.at 0 rfl⟩) ?_
                      refine d_q rfl (q_move rfl rfl) rfl rfl ?_
                      refine d_q rfl (q_move rfl rfl) rfl rfl ?_
                      refine d_q rfl (q_move rfl rfl) rfl rfl ?_
                      refine d_q rfl (q_move rfl rfl) rfl rfl ?_
                      refine d_q rfl (q_indexV c rfl Try.underlying22 Try.sizeOf3 rfl (fun _ h => h.1) rfl rfl (by omega)) rfl rfl ?_
                      refine d_q rfl (q_loadV c 0 rfl Try.isAgg3 rfl rfl (fun _ h => h.1) hdc rfl) rfl rfl ?_
                      refine d_q rfl (q_loadCAgg (an0.c) rfl Try.isAgg45 Try.sizeOf45 rfl (fun _ h => h.2) (List.take_of_length_le (by rw [List.drop_zero, An.c_len]; exact Nat.le_refl _)) (An.c_len _)) rfl rfl ?_
                      refine d_q rfl (q_build ((mkE c dn true an0 (by omega) (by omega)).c) rfl rfl (fun w => buildE c dn an0 (by omega) (by omega) w)) rfl rfl ?_
                      refine d_e rfl ?_
                      refine e_buildSliceV (sz := 22) [.tmp 106] rfl rfl rfl rfl rfl Try.underlying26 Try.sizeOf52 rfl Try.zeroValue52 (by simp [Value.cells, Ev.c_len]) ?_
                      intro b32
                      refine d_held (fun _ h => ⟨h.rd 5 rfl, h.at 1 rfl⟩) ?_
                      refine pull3 ?_
                      refine d_e rfl ?_
                      refine e_append rfl rfl rfl Try.underlying26 Try.underlying26 info52 rfl rfl rfl rfl rfl (fun _ h => lit_rd (h.at 1 rfl) Ev.enc [(mkE c dn true an0 (by omega) (by omega))] rfl rfl) (by simp only [byt52, List.length_append, List.length_cons, List.length_nil]; omega) (by simp only [List.length_append, List.length_cons, List.length_nil]; omega) ?_
                      intro v2
                      refine pull1 ?_
                      refine drop0 ?_
                      refine d_held (fun _ h => ⟨h.rd 4 rfl, h.at 1 rfl⟩) ?_
                      refine d_q rfl (q_assign rfl rfl) rfl rfl ?_
                      refine d_nil ?_
                      refine k_then ?_
                      refine c_seq ?_
                      refine c_region _ rfl ?_
                      refine l_q rfl (q_move rfl rfl) rfl rfl ?_
                      refine l_q rfl (q_move rfl rfl) rfl rfl ?_
                      refine l_q rfl (q_indexV c rfl Try.underlying22 Try.sizeOf3 rfl (fun _ h => h.rd 4 rfl) rfl rfl (by omega)) rfl rfl ?_
                      refine l_q rfl (q_loadV c 0 rfl Try.isAgg3 rfl rfl (fun _ h => h.rd 4 rfl) hdc rfl) rfl rfl ?_
                      refine l_q rfl (q_inc rfl rfl rfl (by omega)) rfl rfl ?_
                      refine l_q rfl (q_indexV c rfl Try.underlying22 Try.sizeOf3 rfl (fun _ h => h.rd 4 rfl) rfl rfl (by omega)) rfl rfl ?_
                      refine pull4 ?_
                      refine l_e rfl ?_
                      refine e_storeV c 0 (((dn + 1 : Nat) : Int)) rfl rfl Try.sizeOf3 rfl rfl rfl (List.getElem?_eq_getElem (by omega)) (by decide) rfl ?_
                      refine l_nil ?_
                      refine k_then ?_
                      refine c_exit ?_
                      refine k_then_exit ?_
                      refine k_block_exit ?_
                      refine k_then ?_
                      refine c_region _ rfl ?_
                      refine l_q rfl (q_move rfl rfl) rfl rfl ?_
                      refine l_q rfl (q_inc rfl rfl rfl (by omega)) rfl rfl ?_
                      refine l_q rfl (q_assign rfl rfl) rfl rfl ?_
                      refine l_nil ?_
                      refine pull2 ?_
                      refine drop0 ?_
                      refine pull2 ?_
                      refine drop0 ?_
                      refine pull2 ?_
                      refine pull2 ?_
                      exact k_round ((i + 1, v2, E ++ [mkE c dn true an0 (by omega) (by omega)], B, D.set c (dn + 1))) (by dsimp only; omega) ⟨by dsimp only; omega, by dsimp only; rw [List.length_append]; simp only [List.length_cons, List.length_nil]; omega, by dsimp only; omega, hBl, by dsimp only; rw [List.length_set]; exact hDl, hfit⟩ (Sub.cons rfl (Sub.cons rfl (Sub.cons rfl (Sub.cons rfl (Sub.cons rfl (Sub.cons rfl (Sub.nil))))))) (fun _ h => by dsimp only; rw [nI_set]; exact h)
              · try simp only [decide_eq_true_eq, decide_eq_false_iff_not, Bool.not_eq_true', Bool.not_eq_false'] at h9
                refine l_not rfl rfl rfl ?_
                refine l_not rfl rfl rfl ?_
                refine l_not rfl rfl rfl ?_
                refine l_q rfl (q_pick_f rfl rfl rfl) rfl rfl ?_
                refine l_q rfl (q_assign rfl rfl) rfl rfl ?_
                refine l_nil ?_
                refine k_then ?_
                refine c_false rfl ?_
                refine c_seq ?_
                refine c_region _ rfl ?_
                refine l_q rfl (q_fieldAddr rfl Try.underlying37 rfl Try.sizeOf3 rfl rfl) rfl rfl ?_
                refine l_q rfl (q_loadC rfl Try.isAgg3 rfl (fun _ h => h.at 1 rfl) rfl) rfl rfl ?_
                refine l_q rfl (q_neq rfl rfl rfl) rfl rfl ?_
                refine l_q rfl (q_move rfl rfl) rfl rfl ?_
                refine Pre.caseB 88 rfl (fun h33 => ?_) (fun h33 => ?_)
                · try simp only [decide_eq_true_eq, decide_eq_false_iff_not, Bool.not_eq_true', Bool.not_eq_false'] at h33
                  refine l_q rfl (q_move rfl rfl) rfl rfl ?_
                  refine l_q rfl (q_rem_nn rfl rfl rfl (by omega) (by omega)) rfl rfl ?_
                  refine l_q rfl (q_eql rfl rfl rfl) rfl rfl ?_
                  refine l_q rfl (q_pick_t rfl rfl rfl) rfl rfl ?_
                  refine l_q rfl (q_assign rfl rfl) rfl rfl ?_
                  refine l_nil ?_
                  refine k_then ?_
                  refine Pre.caseB 84 rfl (fun h34 => ?_) (fun h34 => ?_)
                  · try simp only [decide_eq_true_eq, decide_eq_false_iff_not, Bool.not_eq_true', Bool.not_eq_false'] at h34
                    refine c_true rfl ?_
                    refine c_region _ rfl ?_
                    refine l_q rfl (q_fieldAddr rfl Try.underlying45 rfl Try.sizeOf40 rfl rfl) rfl rfl ?_
                    obtain ⟨a1, ha1⟩ := an_code an0 3 (by first | decide | exact wf_n8 (k := kk / 8) (by omega) | (simp only [Lit.wf, Bool.and_eq_true, decide_eq_true_eq]; exact ⟨by show (-2 ^ 63 : Int) ≤ _; omega, by show _ ≤ (2 ^ 63 - 1 : Int); omega⟩))
                    refine l_e rfl ?_
                    refine e_store rfl rfl Try.sizeOf40 rfl rfl rfl (by show 0 + 0 < (An.c an0).length; rw [An.c_len]; decide) ?_
                    refine cells_eq (ha1) ?_
                    refine l_nil ?_
                    refine k_block ?_
                    refine k_then ?_
                    refine c_seq ?_
                    refine c_seq ?_
                    refine c_region _ rfl ?_
                    refine l_q rfl (q_move rfl rfl) rfl rfl ?_
                    refine l_q rfl (q_eql rfl rfl rfl) rfl rfl ?_
                    refine l_nil ?_
                    refine k_then ?_
                    refine Pre.caseB 95 rfl (fun h35 => ?_) (fun h35 => ?_)
                    · try simp only [decide_eq_true_eq, decide_eq_false_iff_not, Bool.not_eq_true', Bool.not_eq_false'] at h35
                      refine c_true rfl ?_
                      refine c_region _ rfl ?_
                      refine l_q rfl (q_move rfl rfl) rfl rfl ?_
                      refine l_q rfl (q_quo_nn rfl rfl rfl (by omega) (by omega) (by omega)) rfl rfl ?_
                      refine l_q rfl (q_fieldAddr rfl Try.underlying45 rfl Try.sizeOf40 rfl rfl) rfl rfl ?_
                      obtain ⟨a2, ha2⟩ := an_code a1 ((kk : Int) / 8) (by first | decide | exact wf_n8 (k := kk / 8) (by omega) | (simp only [Lit.wf, Bool.and_eq_true, decide_eq_true_eq]; exact ⟨by show (-2 ^ 63 : Int) ≤ _; omega, by show _ ≤ (2 ^ 63 - 1 : Int); omega⟩))
                      refine l_e rfl ?_
                      refine e_store rfl rfl Try.sizeOf40 rfl rfl rfl (by show 0 + 0 < (An.c a1).length; rw [An.c_len]; decide) ?_
                      refine cells_eq (ha2) ?_
                      refine l_nil ?_
                      refine k_then ?_
                      refine c_seq ?_
                      refine c_draw [(0, some true), (1, some true), (2, some true), (3, some true), (4, some true), (5, some true), (6, some true), (7, some true), (8, some false), (9, some false), (10, some true)] [] [(_, some true), (_, some true), (_, some true), (_, some true), (_, some true), (_, some true), (_, some true), (_, some true), (_, some false), (_, some false), (_, some true)] (fun w2 => RdV w2 vd (encI .i64) (nI D) ∧ (cellsE ba 45 a2.c).at w2) (blind_then (blind_then (blind_block (blind_then (blind_then (blind_block (blind_then blind_body))))))) rfl (by kernel_rfl) (by kernel_rfl) rfl rfl rfl (by kernel_rfl) St.drawn (fun _ h => ⟨h.rd 4 rfl, h.at 0 rfl⟩) ?_
                      refine d_q rfl (q_move rfl rfl) rfl rfl ?_
                      refine d_q rfl (q_move rfl rfl) rfl rfl ?_
                      refine d_q rfl (q_move rfl rfl) rfl rfl ?_
                      refine d_q rfl (q_move rfl rfl) rfl rfl ?_
                      refine d_q rfl (q_indexV c rfl Try.underlying22 Try.sizeOf3 rfl (fun _ h => h.1) rfl rfl (by omega)) rfl rfl ?_
                      refine d_q rfl (q_loadV c 0 rfl Try.isAgg3 rfl rfl (fun _ h => h.1) hdc rfl) rfl rfl ?_
                      refine d_q rfl (q_loadCAgg (a2.c) rfl Try.isAgg45 Try.sizeOf45 rfl (fun _ h => h.2) (List.take_of_length_le (by rw [List.drop_zero, An.c_len]; exact Nat.le_refl _)) (An.c_len _)) rfl rfl ?_
                      refine d_q rfl (q_build ((mkE c dn true a2 (by omega) (by omega)).c) rfl rfl (fun w => buildE c dn a2 (by omega) (by omega) w)) rfl rfl ?_
                      refine d_e rfl ?_
                      refine e_buildSliceV (sz := 22) [.tmp 106] rfl rfl rfl rfl rfl Try.underlying26 Try.sizeOf52 rfl Try.zeroValue52 (by simp [Value.cells, Ev.c_len]) ?_
                      intro b37
                      refine d_held (fun _ h => ⟨h.rd 5 rfl, h.at 1 rfl⟩) ?_
                      refine pull3 ?_
                      refine d_e rfl ?_
                      refine e_append rfl rfl rfl Try.underlying26 Try.underlying26 info52 rfl rfl rfl rfl rfl (fun _ h => lit_rd (h.at 1 rfl) Ev.enc [(mkE c dn true a2 (by omega) (by omega))] rfl rfl) (by simp only [byt52, List.length_append, List.length_cons, List.length_nil]; omega) (by simp only [List.length_append, List.length_cons, List.length_nil]; omega) ?_
                      intro v2
                      refine pull1 ?_
                      refine drop0 ?_
                      refine d_held (fun _ h => ⟨h.rd 4 rfl, h.at 1 rfl⟩) ?_
                      refine d_q rfl (q_assign rfl rfl) rfl rfl ?_
                      refine d_nil ?_
                      refine k_then ?_
                      refine c_seq ?_
                      refine c_region _ rfl ?_
                      refine l_q rfl (q_move rfl rfl) rfl rfl ?_
                      refine l_q rfl (q_move rfl rfl) rfl rfl ?_
                      refine l_q rfl (q_indexV c rfl Try.underlying22 Try.sizeOf3 rfl (fun _ h => h.rd 4 rfl) rfl rfl (by omega)) rfl rfl ?_
                      refine l_q rfl (q_loadV c 0 rfl Try.isAgg3 rfl rfl (fun _ h => h.rd 4 rfl) hdc rfl) rfl rfl ?_
                      refine l_q rfl (q_inc rfl rfl rfl (by omega)) rfl rfl ?_
                      refine l_q rfl (q_indexV c rfl Try.underlying22 Try.sizeOf3 rfl (fun _ h => h.rd 4 rfl) rfl rfl (by omega)) rfl rfl ?_
                      refine pull4 ?_
                      refine l_e rfl ?_
                      refine e_storeV c 0 (((dn + 1 : Nat) : Int)) rfl rfl Try.sizeOf3 rfl rfl rfl (List.getElem?_eq_getElem (by omega)) (by decide) rfl ?_
                      refine l_nil ?_
                      refine k_then ?_
                      refine c_exit ?_
                      refine k_then_exit ?_
                      refine k_block_exit ?_
                      refine k_then ?_
                      refine c_region _ rfl ?_
                      refine l_q rfl (q_move rfl rfl) rfl rfl ?_
                      refine l_q rfl (q_inc rfl rfl rfl (by omega)) rfl rfl ?_
                      refine l_q rfl (q_assign rfl rfl) rfl rfl ?_
                      refine l_nil ?_
                      refine pull2 ?_
                      refine drop0 ?_
                      refine pull2 ?_
                      refine drop0 ?_
                      refine pull2 ?_
                      refine pull2 ?_
                      exact k_round ((i + 1, v2, E ++ [mkE c dn true a2 (by omega) (by omega)], B, D.set c (dn + 1))) (by dsimp only; omega) ⟨by dsimp only; omega, by dsimp only; rw [List.length_append]; simp only [List.length_cons, List.length_nil]; omega, by dsimp only; omega, hBl, by dsimp only; rw [List.length_set]; exact hDl, hfit⟩ (Sub.cons rfl (Sub.cons rfl (Sub.cons rfl (Sub.cons rfl (Sub.cons rfl (Sub.cons rfl (Sub.nil))))))) (fun _ h => by dsimp only; rw [nI_set]; exact h)
                    · try simp only [decide_eq_true_eq, decide_eq_false_iff_not, Bool.not_eq_true', Bool.not_eq_false'] at h35
                      refine c_false rfl ?_
                      refine c_skip ?_
                      refine k_then ?_
                      refine c_seq ?_
                      refine c_draw [(0, some true), (1, some true), (2, some true), (3, some true), (4, some true), (5, some true), (6, some true), (7, some true), (8, some false), (9, some false), (10, some true)] [] [(_, some true), (_, some true), (_, some true), (_, some true), (_, some true), (_, some true), (_, some true), (_, some true), (_, some false), (_, some false), (_, some true)] (fun w2 => RdV w2 vd (encI .i64) (nI D) ∧ (cellsE ba 45 a1.c).at w2) (blind_then (blind_then (blind_block (blind_then (blind_then (blind_block (blind_then blind_body))))))) rfl (by kernel_rfl) (by kernel_rfl) rfl rfl rfl (by kernel_rfl) St.drawn (fun _ h => ⟨h.rd 4 rfl, h.at 0 rfl⟩) ?_
                      refine d_q rfl (q_move rfl rfl) rfl rfl ?_
                      refine d_q rfl (q_move rfl rfl) rfl rfl ?_
                      refine d_q rfl (q_move rfl rfl) rfl rfl ?_
                      refine d_q rfl (q_move rfl rfl) rfl rfl ?_
                      refine d_q rfl (q_indexV c rfl Try.underlying22 Try.sizeOf3 rfl (fun _ h => h.1) rfl rfl (by omega)) rfl rfl ?_
                      refine d_q rfl (q_loadV c 0 rfl Try.isAgg3 rfl rfl (fun _ h => h.1) hdc rfl) rfl rfl ?_
                      refine d_q rfl (q_loadCAgg (a1.c) rfl Try.isAgg45 Try.sizeOf45 rfl (fun _ h => h.2) (List.take_of_length_le (by rw [List.drop_zero, An.c_len]; exact Nat.le_refl _)) (An.c_len _)) rfl rfl ?_
                      refine d_q rfl (q_build ((mkE c dn true a1 (by omega) (by omega)).c) rfl rfl (fun w => buildE c dn a1 (by omega) (by omega) w)) rfl rfl ?_
                      refine d_e rfl ?_
                      refine e_buildSliceV (sz := 22) [.tmp 106] rfl rfl rfl rfl rfl Try.underlying26 Try.sizeOf52 rfl Try.zeroValue52 (by simp [Value.cells, Ev.c_len]) ?_
                      intro b39
                      refine d_held (fun _ h => ⟨h.rd 5 rfl, h.at 1 rfl⟩) ?_
                      refine pull3 ?_
                      refine d_e rfl ?_
                      refine e_append rfl rfl rfl Try.underlying26 Try.underlying26 info52 rfl rfl rfl rfl rfl (fun _ h => lit_rd (h.at 1 rfl) Ev.enc [(mkE c dn true a1 (by omega) (by omega))] rfl rfl) (by simp only [byt52, List.length_append, List.length_cons, List.length_nil]; omega) (by simp only [List.length_append, List.length_cons, List.length_nil]; omega) ?_
                      intro v2
                      refine pull1 ?_
                      refine drop0 ?_
                      refine d_held (fun _ h => ⟨h.rd 4 rfl, h.at 1 rfl⟩) ?_
                      refine d_q rfl (q_assign rfl rfl) rfl rfl ?_
                      refine d_nil ?_
                      refine k_then ?_
                      refine c_seq ?_
                      refine c_region _ rfl ?_
                      refine l_q rfl (q_move rfl rfl) rfl rfl ?_
                      refine l_q rfl (q_move rfl rfl) rfl rfl ?_
                      refine l_q rfl (q_indexV c rfl Try.underlying22 Try.sizeOf3 rfl (fun _ h => h.rd 4 rfl) rfl rfl (by omega)) rfl rfl ?_
                      refine l_q rfl (q_loadV c 0 rfl Try.isAgg3 rfl rfl (fun _ h => h.rd 4 rfl) hdc rfl) rfl rfl ?_
                      refine l_q rfl (q_inc rfl rfl rfl (by omega)) rfl rfl ?_
                      refine l_q rfl (q_indexV c rfl Try.underlying22 Try.sizeOf3 rfl (fun _ h => h.rd 4 rfl) rfl rfl (by omega)) rfl rfl ?_
                      refine pull4 ?_
                      refine l_e rfl ?_
                      refine e_storeV c 0 (((dn + 1 : Nat) : Int)) rfl rfl Try.sizeOf3 rfl rfl rfl (List.getElem?_eq_getElem (by omega)) (by decide) rfl ?_
                      refine l_nil ?_
                      refine k_then ?_
                      refine c_exit ?_
                      refine k_then_exit ?_
                      refine k_block_exit ?_
                      refine k_then ?_
                      refine c_region _ rfl ?_
                      refine l_q rfl (q_move rfl rfl) rfl rfl ?_
                      refine l_q rfl (q_inc rfl rfl rfl (by omega)) rfl rfl ?_
                      refine l_q rfl (q_assign rfl rfl) rfl rfl ?_
                      refine l_nil ?_
                      refine pull2 ?_
                      refine drop0 ?_
                      refine pull2 ?_
                      refine drop0 ?_
                      refine pull2 ?_
                      refine pull2 ?_
                      exact k_round ((i + 1, v2, E ++ [mkE c dn true a1 (by omega) (by omega)], B, D.set c (dn + 1))) (by dsimp only; omega) ⟨by dsimp only; omega, by dsimp only; rw [List.length_append]; simp only [List.length_cons, List.length_nil]; omega, by dsimp only; omega, hBl, by dsimp only; rw [List.length_set]; exact hDl, hfit⟩ (Sub.cons rfl (Sub.cons rfl (Sub.cons rfl (Sub.cons rfl (Sub.cons rfl (Sub.cons rfl (Sub.nil))))))) (fun _ h => by dsimp only; rw [nI_set]; exact h)
                  · try simp only [decide_eq_true_eq, decide_eq_false_iff_not, Bool.not_eq_true', Bool.not_eq_false'] at h34
                    refine c_false rfl ?_
                    refine c_skip ?_
                    refine k_block ?_
                    refine k_then ?_
                    refine c_seq ?_
                    refine c_seq ?_
                    refine c_region _ rfl ?_
                    refine l_q rfl (q_move rfl rfl) rfl rfl ?_
                    refine l_q rfl (q_eql rfl rfl rfl) rfl rfl ?_
                    refine l_nil ?_
                    refine k_then ?_
                    refine Pre.caseB 95 rfl (fun h40 => ?_) (fun h40 => ?_)
                    · try simp only [decide_eq_true_eq, decide_eq_false_iff_not, Bool.not_eq_true', Bool.not_eq_false'] at h40
                      refine c_true rfl ?_
                      refine c_region _ rfl ?_
                      refine l_q rfl (q_move rfl rfl) rfl rfl ?_
                      refine l_q rfl (q_quo_nn rfl rfl rfl (by omega) (by omega) (by omega)) rfl rfl ?_
                      refine l_q rfl (q_fieldAddr rfl Try.underlying45 rfl Try.sizeOf40 rfl rfl) rfl rfl ?_
                      obtain ⟨a1, ha1⟩ := an_code an0 ((kk : Int) / 8) (by first | decide | exact wf_n8 (k := kk / 8) (by omega) | (simp only [Lit.wf, Bool.and_eq_true, decide_eq_true_eq]; exact ⟨by show (-2 ^ 63 : Int) ≤ _; omega, by show _ ≤ (2 ^ 63 - 1 : Int); omega⟩))
                      refine l_e rfl ?_
                      refine e_store rfl rfl Try.sizeOf40 rfl rfl rfl (by show 0 + 0 < (An.c an0).length; rw [An.c_len]; decide) ?_
                      refine cells_eq (ha1) ?_
                      refine l_nil ?_
                      refine k_then ?_
                      refine c_seq ?_
                      refine c_draw [(0, some true), (1, some true), (2, some true), (3, some true), (4, some true), (5, some true), (6, some true), (7, some true), (8, some false), (9, some false), (10, some true)] [] [(_, some true), (_, some true), (_, some true), (_, some true), (_, some true), (_, some true), (_, some true), (_, some true), (_, some false), (_, some false), (_, some true)] (fun w2 => RdV w2 vd (encI .i64) (nI D) ∧ (cellsE ba 45 a1.c).at w2) (blind_then (blind_then (blind_block (blind_then (blind_then (blind_block (blind_then blind_body))))))) rfl (by kernel_rfl) (by kernel_rfl) rfl rfl rfl (by kernel_rfl) St.drawn (fun _ h => ⟨h.rd 4 rfl, h.at 0 rfl⟩) ?_
                      refine d_q rfl (q_move rfl rfl) rfl rfl ?_
                      refine d_q rfl (q_move rfl rfl) rfl rfl ?_
                      refine d_q rfl (q_move rfl rfl) rfl rfl ?_
                      refine d_q rfl (q_move rfl rfl) rfl rfl ?_
                      refine d_q rfl (q_indexV c rfl Try.underlying22 Try.sizeOf3 rfl (fun _ h => h.1) rfl rfl (by omega)) rfl rfl ?_
                      refine d_q rfl (q_loadV c 0 rfl Try.isAgg3 rfl rfl (fun _ h => h.1) hdc rfl) rfl rfl ?_
                      refine d_q rfl (q_loadCAgg (a1.c) rfl Try.isAgg45 Try.sizeOf45 rfl (fun _ h => h.2) (List.take_of_length_le (by rw [List.drop_zero, An.c_len]; exact Nat.le_refl _)) (An.c_len _)) rfl rfl ?_
                      refine d_q rfl (q_build ((mkE c dn true a1 (by omega) (by omega)).c) rfl rfl (fun w => buildE c dn a1 (by omega) (by omega) w)) rfl rfl ?_
                      refine d_e rfl ?_
                      refine e_buildSliceV (sz := 22) [.tmp 106] rfl rfl rfl rfl rfl Try.underlying26 Try.sizeOf52 rfl Try.zeroValue52 (by simp [Value.cells, Ev.c_len]) ?_
                      intro b42
                      refine d_held (fun _ h => ⟨h.rd 5 rfl, h.at 1 rfl⟩) ?_
                      refine pull3 ?_
                      refine d_e rfl ?_
                      refine e_append rfl rfl rfl Try.underlying26 Try.underlying26 info52 rfl rfl rfl rfl rfl (fun _ h => lit_rd (h.at 1 rfl) Ev.enc [(mkE c dn true a1 (by omega) (by omega))] rfl rfl) (by simp only [byt52, List.length_append, List.length_cons, List.length_nil]; omega) (by simp only [List.length_append, List.length_cons, List.length_nil]; omega) ?_
                      intro v2
                      refine pull1 ?_
                      refine drop0 ?_
                      refine d_held (fun _ h => ⟨h.rd 4 rfl, h.at 1 rfl⟩) ?_
                      refine d_q rfl (q_assign rfl rfl) rfl rfl ?_
                      refine d_nil ?_
                      refine k_then ?_
                      refine c_seq ?_
                      refine c_region _ rfl ?_
                      refine l_q rfl (q_move rfl rfl) rfl rfl ?_
                      refine l_q rfl (q_move rfl rfl) rfl rfl ?_
                      refine l_q rfl (q_indexV c rfl Try.underlying22 Try.sizeOf3 rfl (fun _ h => h.rd 4 rfl) rfl rfl (by omega)) rfl rfl ?_
                      refine l_q rfl (q_loadV c 0 rfl Try.isAgg3 rfl rfl (fun _ h => h.rd 4 rfl) hdc rfl) rfl rfl ?_
                      refine l_q rfl (q_inc rfl rfl rfl (by omega)) rfl rfl ?_
                      refine l_q rfl (q_indexV c rfl Try.underlying22 Try.sizeOf3 rfl (fun _ h => h.rd 4 rfl) rfl rfl (by omega)) rfl rfl ?_
                      refine pull4 ?_
                      refine l_e rfl ?_
                      refine e_storeV c 0 (((dn + 1 : Nat) : Int)) rfl rfl Try.sizeOf3 rfl rfl rfl (List.getElem?_eq_getElem (by omega)) (by decide) rfl ?_
                      refine l_nil ?_
                      refine k_then ?_
                      refine c_exit ?_
                      refine k_then_exit ?_
                      refine k_block_exit ?_
                      refine k_then ?_
                      refine c_region _ rfl ?_
                      refine l_q rfl (q_move rfl rfl) rfl rfl ?_
                      refine l_q rfl (q_inc rfl rfl rfl (by omega)) rfl rfl ?_
                      refine l_q rfl (q_assign rfl rfl) rfl rfl ?_
                      refine l_nil ?_
                      refine pull2 ?_
                      refine drop0 ?_
                      refine pull2 ?_
                      refine drop0 ?_
                      refine pull2 ?_
                      refine pull2 ?_
                      exact k_round ((i + 1, v2, E ++ [mkE c dn true a1 (by omega) (by omega)], B, D.set c (dn + 1))) (by dsimp only; omega) ⟨by dsimp only; omega, by dsimp only; rw [List.length_append]; simp only [List.length_cons, List.length_nil]; omega, by dsimp only; omega, hBl, by dsimp only; rw [List.length_set]; exact hDl, hfit⟩ (Sub.cons rfl (Sub.cons rfl (Sub.cons rfl (Sub.cons rfl (Sub.cons rfl (Sub.cons rfl (Sub.nil))))))) (fun _ h => by dsimp only; rw [nI_set]; exact h)
                    · try simp only [decide_eq_true_eq, decide_eq_false_iff_not, Bool.not_eq_true', Bool.not_eq_false'] at h40
                      refine c_false rfl ?_
                      refine c_skip ?_
                      refine k_then ?_
                      refine c_seq ?_
                      refine c_draw [(0, some true), (1, some true), (2, some true), (3, some true), (4, some true), (5, some true), (6, some true), (7, some true), (8, some false), (9, some false), (10, some true)] [] [(_, some true), (_, some true), (_, some true), (_, some true), (_, some true), (_, some true), (_, some true), (_, some true), (_, some false), (_, some false), (_, some true)] (fun w2 => RdV w2 vd (encI .i64) (nI D) ∧ (cellsE ba 45 an0.c).at w2) (blind_then (blind_then (blind_block (blind_then (blind_then (blind_block (blind_then blind_body))))))) rfl (by kernel_rfl) (by kernel_rfl) rfl rfl rfl (by kernel_rfl) St.drawn (fun _ h => ⟨h.rd 4 rfl, h.at 0 rfl⟩) ?_
                      refine d_q rfl (q_move rfl rfl) rfl rfl ?_
                      refine d_q rfl (q_move rfl rfl) rfl rfl ?_
                      refine d_q rfl (q_move rfl rfl) rfl rfl ?_
                      refine d_q rfl (q_move rfl rfl) rfl rfl ?_
                      refine d_q rfl (q_indexV c rfl Try.underlying22 Try.sizeOf3 rfl (fun _ h => h.1) rfl rfl (by omega)) rfl rfl ?_
                      refine d_q rfl (q_loadV c 0 rfl Try.isAgg3 rfl rfl (fun _ h => h.1) hdc rfl) rfl rfl ?_
                      refine d_q rfl (q_loadCAgg (an0.c) rfl Try.isAgg45 Try.sizeOf45 rfl (fun _ h => h.2) (List.take_of_length_le (by rw [List.drop_zero, An.c_len]; exact Nat.le_refl _)) (An.c_len _)) rfl rfl ?_
                      refine d_q rfl (q_build ((mkE c dn true an0 (by omega) (by omega)).c) rfl rfl (fun w => buildE c dn an0 (by omega) (by omega) w)) rfl rfl ?_
                      refine d_e rfl ?_
                      refine e_buildSliceV (sz := 22) [.tmp 106] rfl rfl rfl rfl rfl Try.underlying26 Try.sizeOf52 rfl Try.zeroValue52 (by simp [Value.cells, Ev.c_len]) ?_
                      intro b44
                      refine d_held (fun _ h => ⟨h.rd 5 rfl, h.at 1 rfl⟩) ?_
                      refine pull3 ?_
                      refine d_e rfl ?_
                      refine e_append rfl rfl rfl Try.underlying26 Try.underlying26 info52 rfl rfl rfl rfl rfl (fun _ h => lit_rd (h.at 1 rfl) Ev.enc [(mkE c dn true an0 (by omega) (by omega))] rfl rfl) (by simp only [byt52, List.length_append, List.length_cons, List.length_nil]; omega) (by simp only [List.length_append, List.length_cons, List.length_nil]; omega) ?_
                      intro v2
                      refine pull1 ?_
                      refine drop0 ?_
                      refine d_held (fun _ h => ⟨h.rd 4 rfl, h.at 1 rfl⟩) ?_
                      refine d_q rfl (q_assign rfl rfl) rfl rfl ?_
                      refine d_nil ?_
                      refine k_then ?_
                      refine c_seq ?_
                      refine c_region _ rfl ?_
                      refine l_q rfl (q_move rfl rfl) rfl rfl ?_
                      refine l_q rfl (q_move rfl rfl) rfl rfl ?_
                      refine l_q rfl (q_indexV c rfl Try.underlying22 Try.sizeOf3 rfl (fun _ h => h.rd 4 rfl) rfl rfl (by omega)) rfl rfl ?_
                      refine l_q rfl (q_loadV c 0 rfl Try.isAgg3 rfl rfl (fun _ h => h.rd 4 rfl) hdc rfl) rfl rfl ?_
                      refine l_q rfl (q_inc rfl rfl rfl (by omega)) rfl rfl ?_
                      refine l_q rfl (q_indexV c rfl Try.underlying22 Try.sizeOf3 rfl (fun _ h => h.rd 4 rfl) rfl rfl (by omega)) rfl rfl ?_
                      refine pull4 ?_
                      refine l_e rfl ?_
                      refine e_storeV c 0 (((dn + 1 : Nat) : Int)) rfl rfl Try.sizeOf3 rfl rfl rfl (List.getElem?_eq_getElem (by omega)) (by decide) rfl ?_
                      refine l_nil ?_
                      refine k_then ?_
                      refine c_exit ?_
                      refine k_then_exit ?_
                      refine k_block_exit ?_
                      refine k_then ?_
                      refine c_region _ rfl ?_
                      refine l_q rfl (q_move rfl rfl) rfl rfl ?_
                      refine l_q rfl (q_inc rfl rfl rfl (by omega)) rfl rfl ?_
                      refine l_q rfl (q_assign rfl rfl) rfl rfl ?_
                      refine l_nil ?_
                      refine pull2 ?_
                      refine drop0 ?_
                      refine pull2 ?_
                      refine drop0 ?_
                      refine pull2 ?_
                      refine pull2 ?_
                      exact k_round ((i + 1, v2, E ++ [mkE c dn true an0 (by omega) (by omega)], B, D.set c (dn + 1))) (by dsimp only; omega) ⟨by dsimp only; omega, by dsimp only; rw [List.length_append]; simp only [List.length_cons, List.length_nil]; omega, by dsimp only; omega, hBl, by dsimp only; rw [List.length_set]; exact hDl, hfit⟩ (Sub.cons rfl (Sub.cons rfl (Sub.cons rfl (Sub.cons rfl (Sub.cons rfl (Sub.cons rfl (Sub.nil))))))) (fun _ h => by dsimp only; rw [nI_set]; exact h)
                · try simp only [decide_eq_true_eq, decide_eq_false_iff_not, Bool.not_eq_true', Bool.not_eq_false'] at h33
                  refine l_not rfl rfl rfl ?_
                  refine l_not rfl rfl rfl ?_
                  refine l_not rfl rfl rfl ?_
                  refine l_q rfl (q_pick_f rfl rfl rfl) rfl rfl ?_
                  refine l_q rfl (q_assign rfl rfl) rfl rfl ?_
                  refine l_nil ?_
                  refine k_then ?_
                  refine c_false rfl ?_
                  refine c_skip ?_
                  refine k_block ?_
                  refine k_then ?_
                  refine c_seq ?_
                  refine c_seq ?_
                  refine c_region _ rfl ?_
                  refine l_q rfl (q_move rfl rfl) rfl rfl ?_
                  refine l_q rfl (q_eql rfl rfl rfl) rfl rfl ?_
                  refine l_nil ?_
                  refine k_then ?_
                  refine Pre.caseB 95 rfl (fun h45 => ?_) (fun h45 => ?_)
                  · try simp only [decide_eq_true_eq, decide_eq_false_iff_not, Bool.not_eq_true', Bool.not_eq_false'] at h45
                    refine c_true rfl ?_
                    refine c_region _ rfl ?_
                    refine l_q rfl (q_move rfl rfl) rfl rfl ?_
                    refine l_q rfl (q_quo_nn rfl rfl rfl (by omega) (by omega) (by omega)) rfl rfl ?_
                    refine l_q rfl (q_fieldAddr rfl Try.underlying45 rfl Try.sizeOf40 rfl rfl) rfl rfl ?_
                    obtain ⟨a1, ha1⟩ := an_code an0 ((kk : Int) / 8) (by first | decide | exact wf_n8 (k := kk / 8) (by omega) | (simp only [Lit.wf, Bool.and_eq_true, decide_eq_true_eq]; exact ⟨by show (-2 ^ 63 : Int) ≤ _; omega, by show _ ≤ (2 ^ 63 - 1 : Int); omega⟩))
                    refine l_e rfl ?_
                    refine e_store rfl rfl Try.sizeOf40 rfl rfl rfl (by show 0 + 0 < (An.c an0).length; rw [An.c_len]; decide) ?_
                    refine cells_eq (ha1) ?_
                    refine l_nil ?_
                    refine k_then ?_
                    refine c_seq ?_
                    refine c_draw [(0, some true), (1, some true), (2, some true), (3, some true), (4, some true), (5, some true), (6, some true), (7, some true), (8, some false), (9, some false), (10, some true)] [] [(_, some true), (_, some true), (_, some true), (_, some true), (_, some true), (_, some true), (_, some true), (_, some true), (_, some false), (_, some false), (_, some true)] (fun w2 => RdV w2 vd (encI .i64) (nI D) ∧ (cellsE ba 45 a1.c).at w2) (blind_then (blind_then (blind_block (blind_then (blind_then (blind_block (blind_then blind_body))))))) rfl (by kernel_rfl) (by kernel_rfl) rfl rfl rfl (by kernel_rfl) St.drawn (fun _ h => ⟨h.rd 4 rfl, h.at 0 rfl⟩) ?_
                    refine d_q rfl (q_move rfl rfl) rfl rfl ?_
                    refine d_q rfl (q_move rfl rfl) rfl rfl ?_
                    refine d_q rfl (q_move rfl rfl) rfl rfl ?_
                    refine d_q rfl (q_move rfl rfl) rfl rfl ?_
                    refine d_q rfl (q_indexV c rfl Try.underlying22 Try.sizeOf3 rfl (fun _ h => h.1) rfl rfl (by omega)) rfl rfl ?_
                    refine d_q rfl (q_loadV c 0 rfl Try.isAgg3 rfl rfl (fun _ h => h.1) hdc rfl) rfl rfl ?_
                    refine d_q rfl (q_loadCAgg (a1.c) rfl Try.isAgg45 Try.sizeOf45 rfl (fun _ h => h.2) (List.take_of_length_le (by rw [List.drop_zero, An.c_len]; exact Nat.le_refl _)) (An.c_len _)) rfl rfl ?_
                    refine d_q rfl (q_build ((mkE c dn true a1 (by omega) (by omega)).c) rfl rfl (fun w => buildE c dn a1 (by omega) (by omega) w)) rfl rfl ?_
                    refine d_e rfl ?_
                    refine e_buildSliceV (sz := 22) [.tmp 106] rfl rfl rfl rfl rfl Try.underlying26 Try.sizeOf52 rfl Try.zeroValue52 (by simp [Value.cells, Ev.c_len]) ?_
                    intro b47
                    refine d_held (fun _ h => ⟨h.rd 5 rfl, h.at 1 rfl⟩) ?_
                    refine pull3 ?_
                    refine d_e rfl ?_
                    refine e_append rfl rfl rfl Try.underlying26 Try.underlying26 info52 rfl rfl rfl rfl rfl (fun _ h => lit_rd (h.at 1 rfl) Ev.enc [(mkE c dn true a1 (by omega) (by omega))] rfl rfl) (by simp only [byt52, List.length_append, List.length_cons, List.length_nil]; omega) (by simp only [List.length_append, List.length_cons, List.length_nil]; omega) ?_
                    intro v2
                    refine pull1 ?_
                    refine drop0 ?_
                    refine d_held (fun _ h => ⟨h.rd 4 rfl, h.at 1 rfl⟩) ?_
                    refine d_q rfl (q_assign rfl rfl) rfl rfl ?_
                    refine d_nil ?_
                    refine k_then ?_
                    refine c_seq ?_
                    refine c_region _ rfl ?_
                    refine l_q rfl (q_move rfl rfl) rfl rfl ?_
                    refine l_q rfl (q_move rfl rfl) rfl rfl ?_
                    refine l_q rfl (q_indexV c rfl Try.underlying22 Try.sizeOf3 rfl (fun _ h => h.rd 4 rfl) rfl rfl (by omega)) rfl rfl ?_
                    refine l_q rfl (q_loadV c 0 rfl Try.isAgg3 rfl rfl (fun _ h => h.rd 4 rfl) hdc rfl) rfl rfl ?_
                    refine l_q rfl (q_inc rfl rfl rfl (by omega)) rfl rfl ?_
                    refine l_q rfl (q_indexV c rfl Try.underlying22 Try.sizeOf3 rfl (fun _ h => h.rd 4 rfl) rfl rfl (by omega)) rfl rfl ?_
                    refine pull4 ?_
                    refine l_e rfl ?_
                    refine e_storeV c 0 (((dn + 1 : Nat) : Int)) rfl rfl Try.sizeOf3 rfl rfl rfl (List.getElem?_eq_getElem (by omega)) (by decide) rfl ?_
                    refine l_nil ?_
                    refine k_then ?_
                    refine c_exit ?_
                    refine k_then_exit ?_
                    refine k_block_exit ?_
                    refine k_then ?_
                    refine c_region _ rfl ?_
                    refine l_q rfl (q_move rfl rfl) rfl rfl ?_
                    refine l_q rfl (q_inc rfl rfl rfl (by omega)) rfl rfl ?_
                    refine l_q rfl (q_assign rfl rfl) rfl rfl ?_
                    refine l_nil ?_
                    refine pull2 ?_
                    refine drop0 ?_
                    refine pull2 ?_
                    refine drop0 ?_
                    refine pull2 ?_
                    refine pull2 ?_
                    exact k_round ((i + 1, v2, E ++ [mkE c dn true a1 (by omega) (by omega)], B, D.set c (dn + 1))) (by dsimp only; omega) ⟨by dsimp only; omega, by dsimp only; rw [List.length_append]; simp only [List.length_cons, List.length_nil]; omega, by dsimp only; omega, hBl, by dsimp only; rw [List.length_set]; exact hDl, hfit⟩ (Sub.cons rfl (Sub.cons rfl (Sub.cons rfl (Sub.cons rfl (Sub.cons rfl (Sub.cons rfl (Sub.nil))))))) (fun _ h => by dsimp only; rw [nI_set]; exact h)
                  · try simp only [decide_eq_true_eq, decide_eq_false_iff_not, Bool.not_eq_true', Bool.not_eq_false'] at h45
                    refine c_false rfl ?_
                    refine c_skip ?_
                    refine k_then ?_
                    refine c_seq ?_
                    refine c_draw [(0, some true), (1, some true), (2, some true), (3, some true), (4, some true), (5, some true), (6, some true), (7, some true), (8, some false), (9, some false), (10, some true)] [] [(_, some true), (_, some true), (_, some true), (_, some true), (_, some true), (_, some true), (_, some true), (_, some true), (_, some false), (_, some false), (_, some true)] (fun w2 => RdV w2 vd (encI .i64) (nI D) ∧ (cellsE ba 45 an0.c).at w2) (blind_then (blind_then (blind_block (blind_then (blind_then (blind_block (blind_then blind_body))))))) rfl (by kernel_rfl) (by kernel_rfl) rfl rfl rfl (by kernel_rfl) St.drawn (fun _ h => ⟨h.rd 4 rfl, h.at 0 rfl⟩) ?_
                    refine d_q rfl (q_move rfl rfl) rfl rfl ?_
                    refine d_q rfl (q_move rfl rfl) rfl rfl ?_
                    refine d_q rfl (q_move rfl rfl) rfl rfl ?_
                    refine d_q rfl (q_move rfl rfl) rfl rfl ?_
                    refine d_q rfl (q_indexV c rfl Try.underlying22 Try.sizeOf3 rfl (fun _ h => h.1) rfl rfl (by omega)) rfl rfl ?_
                    refine d_q rfl (q_loadV c 0 rfl Try.isAgg3 rfl rfl (fun _ h => h.1) hdc rfl) rfl rfl ?_
                    refine d_q rfl (q_loadCAgg (an0.c) rfl Try.isAgg45 Try.sizeOf45 rfl (fun _ h => h.2) (List.take_of_length_le (by rw [List.drop_zero, An.c_len]; exact Nat.le_refl _)) (An.c_len _)) rfl rfl ?_
                    refine d_q rfl (q_build ((mkE c dn true an0 (by omega) (by omega)).c) rfl rfl (fun w => buildE c dn an0 (by omega) (by omega) w)) rfl rfl ?_
                    refine d_e rfl ?_
                    refine e_buildSliceV (sz := 22) [.tmp 106] rfl rfl rfl rfl rfl Try.underlying26 Try.sizeOf52 rfl Try.zeroValue52 (by simp [Value.cells, Ev.c_len]) ?_
                    intro b49
                    refine d_held (fun _ h => ⟨h.rd 5 rfl, h.at 1 rfl⟩) ?_
                    refine pull3 ?_
                    refine d_e rfl ?_
                    refine e_append rfl rfl rfl Try.underlying26 Try.underlying26 info52 rfl rfl rfl rfl rfl (fun _ h => lit_rd (h.at 1 rfl) Ev.enc [(mkE c dn true an0 (by omega) (by omega))] rfl rfl) (by simp only [byt52, List.length_append, List.length_cons, List.length_nil]; omega) (by simp only [List.length_append, List.length_cons, List.length_nil]; omega) ?_
                    intro v2
                    refine pull1 ?_
                    refine drop0 ?_
                    refine d_held (fun _ h => ⟨h.rd 4 rfl, h.at 1 rfl⟩) ?_
                    refine d_q rfl (q_assign rfl rfl) rfl rfl ?_
                    refine d_nil ?_
                    refine k_then ?_
                    refine c_seq ?_
                    refine c_region _ rfl ?_
                    refine l_q rfl (q_move rfl rfl) rfl rfl ?_
                    refine l_q rfl (q_move rfl rfl) rfl rfl ?_
                    refine l_q rfl (q_indexV c rfl Try.underlying22 Try.sizeOf3 rfl (fun _ h => h.rd 4 rfl) rfl rfl (by omega)) rfl rfl ?_
                    refine l_q rfl (q_loadV c 0 rfl Try.isAgg3 rfl rfl (fun _ h => h.rd 4 rfl) hdc rfl) rfl rfl ?_
                    refine l_q rfl (q_inc rfl rfl rfl (by omega)) rfl rfl ?_
                    refine l_q rfl (q_indexV c rfl Try.underlying22 Try.sizeOf3 rfl (fun _ h => h.rd 4 rfl) rfl rfl (by omega)) rfl rfl ?_
                    refine pull4 ?_
                    refine l_e rfl ?_
                    refine e_storeV c 0 (((dn + 1 : Nat) : Int)) rfl rfl Try.sizeOf3 rfl rfl rfl (List.getElem?_eq_getElem (by omega)) (by decide) rfl ?_
                    refine l_nil ?_
                    refine k_then ?_
                    refine c_exit ?_
                    refine k_then_exit ?_
                    refine k_block_exit ?_
                    refine k_then ?_
                    refine c_region _ rfl ?_
                    refine l_q rfl (q_move rfl rfl) rfl rfl ?_
                    refine l_q rfl (q_inc rfl rfl rfl (by omega)) rfl rfl ?_
                    refine l_q rfl (q_assign rfl rfl) rfl rfl ?_
                    refine l_nil ?_
                    refine pull2 ?_
                    refine drop0 ?_
                    refine pull2 ?_
                    refine drop0 ?_
                    refine pull2 ?_
                    refine pull2 ?_
                    exact k_round ((i + 1, v2, E ++ [mkE c dn true an0 (by omega) (by omega)], B, D.set c (dn + 1))) (by dsimp only; omega) ⟨by dsimp only; omega, by dsimp only; rw [List.length_append]; simp only [List.length_cons, List.length_nil]; omega, by dsimp only; omega, hBl, by dsimp only; rw [List.length_set]; exact hDl, hfit⟩ (Sub.cons rfl (Sub.cons rfl (Sub.cons rfl (Sub.cons rfl (Sub.cons rfl (Sub.cons rfl (Sub.nil))))))) (fun _ h => by dsimp only; rw [nI_set]; exact h)
          · try simp only [decide_eq_true_eq, decide_eq_false_iff_not, Bool.not_eq_true', Bool.not_eq_false'] at h4
            refine c_false rfl ?_
            refine c_skip ?_
            refine k_then ?_
            refine c_seq ?_
            refine c_draw [(0, some true), (1, some true), (2, some true), (3, some true), (4, some true), (5, some true), (6, some true), (7, some true), (8, some true), (9, some true)] [] [(_, some true), (_, some true), (_, some true), (_, some true), (_, some true), (_, some true), (_, some true), (_, some true), (_, some true), (_, some true)] (fun w2 => RdV w2 vo encSv vs ∧ RdV w2 s.v Op.enc lo ∧ RdV w2 vb (encI .i64) (nI B)) (blind_then (blind_block (blind_then (blind_then (blind_block (blind_then blind_body)))))) rfl (by kernel_rfl) (by kernel_rfl) rfl rfl rfl (by kernel_rfl) St.drawn (fun _ h => ⟨hvo.keep h (by simp [dom]), hrd.keep h (by simp [dom]), h.rd 1 rfl⟩) ?_
            refine d_q rfl (q_move rfl rfl) rfl rfl ?_
            refine d_q rfl (q_move rfl rfl) rfl rfl ?_
            refine d_q rfl (q_indexV c rfl Try.underlying22 Try.sizeOf3 rfl (fun _ h => h.2.2) rfl rfl (by omega)) rfl rfl ?_
            refine d_q rfl (q_loadV c 0 rfl Try.isAgg3 rfl rfl (fun _ h => h.2.2) hbc rfl) rfl rfl ?_
            refine d_q rfl (q_move rfl rfl) rfl rfl ?_
            refine d_q rfl (q_move rfl rfl) rfl rfl ?_
            refine d_q rfl (q_indexV c rfl Try.underlying23 Try.sizeOf38 rfl (fun _ h => h.1) rfl rfl (by omega)) rfl rfl ?_
            refine d_q rfl (q_loadV c 0 rfl Try.isAgg38 rfl rfl (fun _ h => h.1) hs rfl) rfl rfl ?_
            refine d_q rfl (q_lenV rfl Try.underlying38 rfl (fun _ h => h.2.1)) rfl rfl ?_
            refine d_q rfl (q_lss rfl rfl rfl) rfl rfl ?_
            refine d_nil ?_
            refine k_then ?_
            refine Pre.caseB 124 rfl (fun h5 => ?_) (fun h5 => ?_)
            · try simp only [decide_eq_true_eq, decide_eq_false_iff_not, Bool.not_eq_true', Bool.not_eq_false'] at h5
              refine c_true rfl ?_
              refine c_seq ?_
              refine c_region _ rfl ?_
              refine l_q rfl (q_move rfl rfl) rfl rfl ?_
              refine l_q rfl (q_move rfl rfl) rfl rfl ?_
              refine l_q rfl (q_move rfl rfl) rfl rfl ?_
              refine l_q rfl (q_move rfl rfl) rfl rfl ?_
              refine l_q rfl (q_indexV c rfl Try.underlying22 Try.sizeOf3 rfl (fun _ h => h.rd 1 rfl) rfl rfl (by omega)) rfl rfl ?_
              refine l_q rfl (q_loadV c 0 rfl Try.isAgg3 rfl rfl (fun _ h => h.rd 1 rfl) hbc rfl) rfl rfl ?_
              refine l_q rfl (q_build ((mkE c b false an0 (by omega) (by omega)).c) rfl rfl (fun w => by kernel_rfl)) rfl rfl ?_
              refine l_e rfl ?_
              refine e_buildSliceV (sz := 22) [.tmp 131] rfl rfl rfl rfl rfl Try.underlying26 Try.sizeOf52 rfl Try.zeroValue52 (by simp [Value.cells, Ev.c_len]) ?_
              intro b51
              refine pull1 ?_
              refine l_e rfl ?_
              refine e_append rfl rfl rfl Try.underlying26 Try.underlying26 info52 rfl rfl rfl rfl rfl (fun _ h => lit_rd (h.at 1 rfl) Ev.enc [(mkE c b false an0 (by omega) (by omega))] rfl rfl) (by simp only [byt52, List.length_append, List.length_cons, List.length_nil]; omega) (by simp only [List.length_append, List.length_cons, List.length_nil]; omega) ?_
              intro v2
              refine pull1 ?_
              refine drop0 ?_
              refine l_q rfl (q_assign rfl rfl) rfl rfl ?_
              refine l_nil ?_
              refine k_then ?_
              refine c_region _ rfl ?_
              refine l_q rfl (q_move rfl rfl) rfl rfl ?_
              refine l_q rfl (q_move rfl rfl) rfl rfl ?_
              refine l_q rfl (q_indexV c rfl Try.underlying22 Try.sizeOf3 rfl (fun _ h => h.rd 1 rfl) rfl rfl (by omega)) rfl rfl ?_
              refine l_q rfl (q_loadV c 0 rfl Try.isAgg3 rfl rfl (fun _ h => h.rd 1 rfl) hbc rfl) rfl rfl ?_
              refine l_q rfl (q_add64 rfl rfl rfl (by omega)) rfl rfl ?_
              refine l_q rfl (q_indexV c rfl Try.underlying22 Try.sizeOf3 rfl (fun _ h => h.rd 1 rfl) rfl rfl (by omega)) rfl rfl ?_
              refine pull1 ?_
              refine l_e rfl ?_
              refine e_storeV c 0 (((b + 1 : Nat) : Int)) rfl rfl Try.sizeOf3 rfl rfl rfl (List.getElem?_eq_getElem (by omega)) (by decide) rfl ?_
              refine l_nil ?_
              refine k_block ?_
              refine k_then ?_
              refine c_region _ rfl ?_
              refine l_q rfl (q_move rfl rfl) rfl rfl ?_
              refine l_q rfl (q_inc rfl rfl rfl (by omega)) rfl rfl ?_
              refine l_q rfl (q_assign rfl rfl) rfl rfl ?_
              refine l_nil ?_
              refine pull2 ?_
              refine pull1 ?_
              refine pull2 ?_
              exact k_round ((i + 1, v2, E ++ [mkE c b false an0 (by omega) (by omega)], B.set c (b + 1), D)) (by dsimp only; omega) ⟨by dsimp only; omega, by dsimp only; rw [List.length_append]; simp only [List.length_cons, List.length_nil]; omega, by dsimp only; omega, by dsimp only; rw [List.length_set]; exact hBl, hDl, fit_set hfit hb hlo (by omega)⟩ (Sub.cons rfl (Sub.cons rfl (Sub.cons rfl (Sub.cons rfl (Sub.cons rfl (Sub.cons rfl (Sub.nil))))))) (fun _ h => by dsimp only; rw [nI_set]; exact h)
            · try simp only [decide_eq_true_eq, decide_eq_false_iff_not, Bool.not_eq_true', Bool.not_eq_false'] at h5
              refine c_false rfl ?_
              refine c_skip ?_
              refine k_block ?_
              refine k_then ?_
              refine c_region _ rfl ?_
              refine l_q rfl (q_move rfl rfl) rfl rfl ?_
              refine l_q rfl (q_inc rfl rfl rfl (by omega)) rfl rfl ?_
              refine l_q rfl (q_assign rfl rfl) rfl rfl ?_
              refine l_nil ?_
              exact k_round ((i + 1, v, E, B, D)) (by dsimp only; omega) ⟨by dsimp only; omega, by dsimp only; omega, by dsimp only; omega, hBl, hDl, hfit⟩ (Sub.cons rfl (Sub.cons rfl (Sub.cons rfl (Sub.cons rfl (Sub.cons rfl (Sub.cons rfl (Sub.nil))))))) (fun _ h => h)
        · try simp only [decide_eq_true_eq, decide_eq_false_iff_not, Bool.not_eq_true', Bool.not_eq_false'] at h3
          refine c_false rfl ?_
          refine c_exit ?_
          refine k_then_exit ?_
          refine k_then_exit ?_
          refine k_block_exit ?_
          refine k_then ?_
          refine c_seq ?_
          refine c_region _ rfl ?_
          refine l_q rfl (q_move rfl rfl) rfl rfl ?_
          refine l_q rfl (q_assign rfl rfl) rfl rfl ?_
          refine l_nil ?_
          refine k_then ?_
          refine c_ret ?_
          refine pull1 ?_
          refine drop0 ?_
          refine pull1 ?_
          refine drop0 ?_
          refine r_one rfl rfl ?_
          exact fun _ h => ⟨(v, E), rfl, by show E.length ≤ 80; omega, h⟩
      · try simp only [decide_eq_true_eq, decide_eq_false_iff_not, Bool.not_eq_true', Bool.not_eq_false'] at h2
        refine l_not rfl rfl rfl ?_
        refine l_not rfl rfl rfl ?_
        refine l_not rfl rfl rfl ?_
        refine l_q rfl (q_pick_f rfl rfl rfl) rfl rfl ?_
        refine l_nil ?_
        refine k_then ?_
        refine c_false rfl ?_
        refine c_exit ?_
        refine k_then_exit ?_
        refine k_then_exit ?_
        refine k_block_exit ?_
        refine k_then ?_
        refine c_seq ?_
        refine c_region _ rfl ?_
        refine l_q rfl (q_move rfl rfl) rfl rfl ?_
        refine l_q rfl (q_assign rfl rfl) rfl rfl ?_
        refine l_nil ?_
        refine k_then ?_
        refine c_ret ?_
        refine pull1 ?_
        refine drop0 ?_
        refine pull1 ?_
        refine drop0 ?_
        refine r_one rfl rfl ?_
        exact fun _ h => ⟨(v, E), rfl, by show E.length ≤ 80; omega, h⟩
    · try simp only [decide_eq_true_eq, decide_eq_false_iff_not, Bool.not_eq_true', Bool.not_eq_false'] at h1
      refine l_not rfl rfl rfl ?_
      refine l_not rfl rfl rfl ?_
      refine l_q rfl (q_pick_f rfl rfl rfl) rfl rfl ?_
      refine l_q rfl (q_move rfl rfl) rfl rfl ?_
      refine l_not rfl rfl rfl ?_
      refine l_not rfl rfl rfl ?_
      refine l_not rfl rfl rfl ?_
      refine l_q rfl (q_pick_f rfl rfl rfl) rfl rfl ?_
      refine l_nil ?_
      refine k_then ?_
      refine c_false rfl ?_
      refine c_exit ?_
      refine k_then_exit ?_
      refine k_then_exit ?_
      refine k_block_exit ?_
      refine k_then ?_
      refine c_seq ?_
      refine c_region _ rfl ?_
      refine l_q rfl (q_move rfl rfl) rfl rfl ?_
      refine l_q rfl (q_assign rfl rfl) rfl rfl ?_
      refine l_nil ?_
      refine k_then ?_
      refine c_ret ?_
      refine pull1 ?_
      refine drop0 ?_
      refine pull1 ?_
      refine drop0 ?_
      refine r_one rfl rfl ?_
      exact fun _ h => ⟨(v, E), rfl, by show E.length ≤ 80; omega, h⟩
  · refine e_makeSlice (encI .i64) 0 vs.length rfl rfl rfl Try.underlying22 info3 rfl rfl rfl rfl rfl rfl rfl (by simp only [byt3]; omega) (by omega) ?_
    intro vd
    refine d_held (fun _ h => hvo.keep h (by simp [dom])) ?_
    refine a_all1 2 (by kernel_rfl) rfl rfl ?_
    refine e_makeSlice (encI .i64) 0 vs.length rfl rfl rfl Try.underlying22 info3 rfl rfl rfl rfl rfl rfl rfl (by simp only [byt3]; omega) (by omega) ?_
    intro vb
    refine d_held (fun _ h => hvo.keep h (by simp [dom])) ?_
    refine a_q (blind_then blind_body) 6 rfl (by kernel_rfl) (by kernel_rfl) (by kernel_rfl) (fun _ h => hvo.keep h (by simp [dom])) rfl (q_assign rfl rfl) rfl rfl ?_
    refine a_q (blind_then blind_body) 7 rfl (by kernel_rfl) (by kernel_rfl) (by kernel_rfl) (fun _ h => hvo.keep h (by simp [dom])) rfl (q_assign rfl rfl) rfl rfl ?_
    refine a_nil (by kernel_rfl) ?_
    refine k_then ?_
    refine c_seq ?_
    refine c_seq ?_
    refine c_region _ rfl ?_
    refine l_q rfl (q_assign rfl rfl) rfl rfl ?_
    refine l_nil ?_
    refine k_then ?_
    refine c_block ?_
    refine pull1 ?_
    refine pull1 ?_
    refine pull2 ?_
    refine c_loop5 (fun (i : Nat) (v : Value) (E : List Ev) (B : List Nat) (D : List Nat) => [(0, vo), (1, va), (5, v), (6, vb), (7, vd), (8, .int .i64 (i : Int))]) (fun (i : Nat) (v : Value) (E : List Ev) (B : List Nat) (D : List Nat) => St w [] [rowE v 52 Ev.enc E, rowE vb 3 (encI .i64) (nI B), rowE vd 3 (encI .i64) (nI D)]) (fun (i : Nat) (v : Value) (E : List Ev) (B : List Nat) (D : List Nat) => i ≤ l.length ∧ E.length ≤ i ∧ i ≤ 80 ∧ B.length = vs.length ∧ D.length = vs.length ∧ Fit B ops) (fun (i : Nat) (v : Value) (E : List Ev) (B : List Nat) (D : List Nat) => l.length - i) (0) (.slice none 0 0) ([]) (List.replicate vs.length 0) (List.replicate vs.length 0) ⟨Nat.zero_le _, Nat.le_refl _, Nat.zero_le _, List.length_replicate .., List.length_replicate .., fit_zero _ _⟩ (Sub.cons rfl (Sub.cons rfl (Sub.cons rfl (Sub.cons rfl (Sub.cons rfl (Sub.cons rfl (Sub.nil))))))) (fun _ h => by rw [nI_rep]; exact h) ?_
    intro i v E B D hp
    refine c_seq ?_
    refine c_seq ?_
    obtain ⟨hi, hEl, hi80, hBl, hDl, hfit⟩ := hp
    have hbl := nI_len B
    have hdl := nI_len D
    refine c_region _ rfl ?_
    refine l_q rfl (q_move rfl rfl) rfl rfl ?_
    refine l_q rfl (q_move rfl rfl) rfl rfl ?_
    refine l_q rfl (q_lenV rfl Try.underlying22 rfl (fun _ h => hl.keep h (by simp [dom]))) rfl rfl ?_
    refine l_q rfl (q_lss rfl rfl rfl) rfl rfl ?_
    refine l_q rfl (q_move rfl rfl) rfl rfl ?_
    refine Pre.caseB 23 rfl (fun h1 => ?_) (fun h1 => ?_)
    · try simp only [decide_eq_true_eq, decide_eq_false_iff_not, Bool.not_eq_true', Bool.not_eq_false'] at h1
      refine l_q rfl (q_move rfl rfl) rfl rfl ?_
      refine l_q rfl (q_lss rfl rfl rfl) rfl rfl ?_
      refine l_q rfl (q_pick_t rfl rfl rfl) rfl rfl ?_
      refine l_q rfl (q_move rfl rfl) rfl rfl ?_
      refine Pre.caseB 27 rfl (fun h2 => ?_) (fun h2 => ?_)
      · try simp only [decide_eq_true_eq, decide_eq_false_iff_not, Bool.not_eq_true', Bool.not_eq_false'] at h2
        refine l_q rfl (q_move rfl rfl) rfl rfl ?_
        refine l_q rfl (q_lenV rfl Try.underlying23 rfl (fun _ h => hvo.keep h (by simp [dom]))) rfl rfl ?_
        refine l_q rfl (q_gtr rfl rfl rfl) rfl rfl ?_
        refine l_q rfl (q_pick_t rfl rfl rfl) rfl rfl ?_
        refine l_nil ?_
        refine k_then ?_
        refine Pre.caseB 31 rfl (fun h3 => ?_) (fun h3 => ?_)
        · try simp only [decide_eq_true_eq, decide_eq_false_iff_not, Bool.not_eq_true', Bool.not_eq_false'] at h3
          obtain ⟨x, hx⟩ : ∃ x, l[i]? = some x := ⟨_, List.getElem?_eq_getElem (by omega)⟩
          refine c_true rfl ?_
          refine c_skip ?_
          refine k_then ?_
          refine c_seq ?_
          refine c_block ?_
          refine c_seq ?_
          refine c_region _ rfl ?_
          refine l_q rfl (q_move rfl rfl) rfl rfl ?_
          refine l_q rfl (q_move rfl rfl) rfl rfl ?_
          refine l_q rfl (q_indexV i rfl Try.underlying22 Try.sizeOf3 rfl (fun _ h => hl.keep h (by simp [dom])) rfl rfl (by omega)) rfl rfl ?_
          refine l_q rfl (q_loadV i 0 rfl Try.isAgg3 rfl rfl (fun _ h => hl.keep h (by simp [dom])) hx rfl) rfl rfl ?_
          refine l_q rfl (q_move rfl rfl) rfl rfl ?_
          refine l_q rfl (q_lenV rfl Try.underlying23 rfl (fun _ h => hvo.keep h (by simp [dom]))) rfl rfl ?_
          refine l_e rfl ?_
          refine e_call_00 (place_spec x (vs.length : Int) (by omega) (by omega)) rfl rfl rfl Try.call9 rfl (fun _ _ => trivial) ?_
          intro _ _
          refine l_q rfl (q_assign rfl rfl) rfl rfl ?_
          refine l_nil ?_
          refine k_then ?_
          refine c_seq ?_
          refine c_region _ rfl ?_
          refine l_q rfl (q_move rfl rfl) rfl rfl ?_
          refine l_q rfl (q_move rfl rfl) rfl rfl ?_
          refine l_q rfl (q_indexV i rfl Try.underlying22 Try.sizeOf3 rfl (fun _ h => hl.keep h (by simp [dom])) rfl rfl (by omega)) rfl rfl ?_
          refine l_q rfl (q_loadV i 0 rfl Try.isAgg3 rfl rfl (fun _ h => hl.keep h (by simp [dom])) hx rfl) rfl rfl ?_
          refine l_q rfl (q_quo rfl rfl rfl (by decide)) rfl rfl ?_
          obtain ⟨c, hc, hcl⟩ : ∃ c : Nat, x % (vs.length : Int) = (c : Int) ∧ c < vs.length := by
            have g1 := Int.emod_nonneg x (b := (vs.length : Int)) (by omega)
            have g2 := Int.emod_lt_of_pos x (b := (vs.length : Int)) (by omega)
            exact ⟨(x % (vs.length : Int)).toNat, by omega, by omega⟩
          refine Pre.setV (t := 9) (c := .int .i64 (c : Int)) rfl (by rw [hc]) ?_
          refine l_e rfl ?_
          refine e_call_00 (place_spec (IntKind.i64.wrap (x.tdiv 8)) 64 (by decide) (by decide)) rfl rfl rfl Try.call9 rfl (fun _ _ => trivial) ?_
          intro _ _
          refine l_q rfl (q_assign rfl rfl) rfl rfl ?_
          refine l_nil ?_
          refine k_then ?_
          refine c_seq ?_
          refine c_seq ?_
          obtain ⟨kk, hkk, hk64⟩ : ∃ kk : Nat, IntKind.i64.wrap (x.tdiv 8) % 64 = (kk : Int) ∧ kk < 64 := ⟨(IntKind.i64.wrap (x.tdiv 8) % 64).toNat, by omega, by omega⟩
          refine Pre.setV (t := 10) (c := .int .i64 (kk : Int)) rfl (by rw [hkk]) ?_
          obtain ⟨b, hb⟩ : ∃ b, B[c]? = some b := ⟨_, List.getElem?_eq_getElem (by omega)⟩
          obtain ⟨dn, hdn⟩ : ∃ d, D[c]? = some d := ⟨_, List.getElem?_eq_getElem (by omega)⟩
          obtain ⟨s, hs⟩ : ∃ s, vs[c]? = some s := ⟨_, List.getElem?_eq_getElem (by omega)⟩
          obtain ⟨lo, hlo⟩ : ∃ o, ops[c]? = some o := ⟨_, List.getElem?_eq_getElem (by omega)⟩
          have hbc := nI_get hb
          have hdc := nI_get hdn
          have hrd := hin c s lo hs hlo
          have hlm := hO lo (List.mem_of_getElem? hlo)
          have hbf := hfit c b lo hb hlo
          refine c_draw [(0, some true), (1, some true), (2, some true), (3, some true), (4, some true), (5, some true), (6, some true), (7, some true), (8, some true)] [] [(_, some true), (_, some true), (_, some true), (_, some true), (_, some true), (_, some true), (_, some true), (_, some true), (_, some true)] _ (blind_then (blind_then (blind_block (blind_then (blind_then (blind_block (blind_then blind_body))))))) rfl (by kernel_rfl) (by kernel_rfl) rfl rfl rfl (by kernel_rfl) St.drawn (fun _ h => h) ?_
          refine d_q rfl (q_move rfl rfl) rfl rfl ?_
          refine d_q rfl (q_move rfl rfl) rfl rfl ?_
          refine d_q rfl (q_indexV c rfl Try.underlying22 Try.sizeOf3 rfl (fun _ h => h.rd 1 rfl) rfl rfl (by omega)) rfl rfl ?_
          refine d_q rfl (q_loadV c 0 rfl Try.isAgg3 rfl rfl (fun _ h => h.rd 1 rfl) hbc rfl) rfl rfl ?_
          refine d_q rfl (q_move rfl rfl) rfl rfl ?_
          refine d_q rfl (q_move rfl rfl) rfl rfl ?_
          refine d_q rfl (q_indexV c rfl Try.underlying22 Try.sizeOf3 rfl (fun _ h => h.rd 2 rfl) rfl rfl (by omega)) rfl rfl ?_
          refine d_q rfl (q_loadV c 0 rfl Try.isAgg3 rfl rfl (fun _ h => h.rd 2 rfl) hdc rfl) rfl rfl ?_
          refine d_q rfl (q_gtr rfl rfl rfl) rfl rfl ?_
          refine d_nil ?_
          refine k_then ?_
          refine Pre.caseB 55 rfl (fun h4 => ?_) (fun h4 => ?_)
          · try simp only [decide_eq_true_eq, decide_eq_false_iff_not, Bool.not_eq_true', Bool.not_eq_false'] at h4
            obtain ⟨o, ho⟩ : ∃ o, lo[dn]? = some o := ⟨_, List.getElem?_eq_getElem (by omega)⟩
            refine c_true rfl ?_
            refine c_seq ?_
            refine c_draw [(0, some true), (1, some true), (2, some true), (3, some true), (4, some true), (5, some true), (6, some true), (7, some true), (8, some true), (9, some true), (10, some false), (11, none)] [11] [(_, some true), (_, some true), (_, some true), (_, some true), (_, some true), (_, some true), (_, some true), (_, some true), (_, some true), (_, some true), (_, some false), (_, none)] (fun w2 => RdV w2 vo encSv vs ∧ RdV w2 s.v Op.enc lo ∧ RdV w2 vd (encI .i64) (nI D)) (blind_then (blind_then (blind_block (blind_then (blind_then (blind_block (blind_then blind_body))))))) rfl (by kernel_rfl) (by kernel_rfl) rfl rfl rfl (by kernel_rfl) St.drawn (fun _ h => ⟨hvo.keep h (by simp [dom]), hrd.keep h (by simp [dom]), h.rd 2 rfl⟩) ?_
            refine d_q rfl (q_move rfl rfl) rfl rfl ?_
            refine d_q rfl (q_move rfl rfl) rfl rfl ?_
            refine d_q rfl (q_indexV c rfl Try.underlying23 Try.sizeOf38 rfl (fun _ h => h.1) rfl rfl (by omega)) rfl rfl ?_
            refine d_q rfl (q_loadV c 0 rfl Try.isAgg38 rfl rfl (fun _ h => h.1) hs rfl) rfl rfl ?_
            refine d_q rfl (q_move rfl rfl) rfl rfl ?_
            refine d_q rfl (q_move rfl rfl) rfl rfl ?_
            refine d_q rfl (q_indexV c rfl Try.underlying22 Try.sizeOf3 rfl (fun _ h => h.2.2) rfl rfl (by omega)) rfl rfl ?_
            refine d_q rfl (q_loadV c 0 rfl Try.isAgg3 rfl rfl (fun _ h => h.2.2) hdc rfl) rfl rfl ?_
            refine d_q rfl (q_indexV dn rfl Try.underlying38 Try.sizeOf37 rfl (fun _ h => h.2.1) rfl rfl (by omega)) rfl rfl ?_
            refine d_q rfl (q_loadVAgg dn rfl Try.isAgg37 Try.sizeOf37 rfl rfl (fun _ h => h.2.1) ho) rfl rfl ?_
            refine d_e rfl ?_
            refine e_alloc rfl rfl rfl Try.zeroValue37 ?_
            intro bo
            refine d_held (fun _ h => ⟨hvo.keep h (by simp [dom]), hrd.keep h (by simp [dom]), h.rd 3 rfl⟩) ?_
            refine d_t rfl ?_
            refine e_storeAgg rfl rfl Try.sizeOf37 rfl rfl (Op.c_len _) (Op.one _) (by show 0 + (Op.c o).length ≤ 4; rw [Op.c_len]; decide) ?_
            refine cells_eq (show Sep.splice _ 0 o.c = o.c from Sep.splice_all rfl) ?_
            refine d_nil ?_
            refine k_then ?_
            refine c_seq ?_
            refine c_region _ rfl ?_
            refine l_q rfl (q_build (an0.c) rfl rfl (fun w => by kernel_rfl)) rfl rfl ?_
            refine l_e rfl ?_
            refine e_alloc rfl rfl rfl Try.zeroValue45 ?_
            intro ba
            refine l_e rfl ?_
            refine e_storeAgg rfl rfl Try.sizeOf45 rfl rfl (An.c_len _) (An.one _) (by show 0 + (An.c an0).length ≤ 19; rw [An.c_len]; decide) ?_
            refine cells_eq (show Sep.splice _ 0 an0.c = an0.c from Sep.splice_all (by rw [An.c_len]; rfl)) ?_
            refine l_nil ?_
            refine k_then ?_
            refine c_seq ?_
            refine c_block ?_
            refine c_seq ?_
            refine c_region _ rfl ?_
            refine l_q rfl (q_loadCAgg (o.c) rfl Try.isAgg37 Try.sizeOf37 rfl (fun _ h => h.at 1 rfl) (rfl) (rfl)) rfl rfl ?_
            refine l_e rfl ?_
            refine e_call_00 (rlrg_spec o) rfl rfl rfl Try.call24 rfl (fun _ _ => trivial) ?_
            intro _ _
            refine l_q rfl (q_assign rfl rfl) rfl rfl ?_
            refine l_nil ?_
            refine k_then ?_
            refine Pre.caseB 67 rfl (fun h54 => ?_) (fun h54 => ?_)
            · try simp only [decide_eq_true_eq, decide_eq_false_iff_not, Bool.not_eq_true', Bool.not_eq_false'] at h54
              refine c_true rfl ?_
              refine c_region _ rfl ?_
              refine l_q rfl (q_fieldAddr rfl Try.underlying45 rfl Try.sizeOf40 rfl rfl) rfl rfl ?_
              obtain ⟨a1, ha1⟩ := an_code an0 2 (by first | decide | exact wf_n8 (k := kk / 8) (by omega) | (simp only [Lit.wf, Bool.and_eq_true, decide_eq_true_eq]; exact ⟨by show (-2 ^ 63 : Int) ≤ _; omega, by show _ ≤ (2 ^ 63 - 1 : Int); omega⟩))
              refine l_e rfl ?_
              refine e_store rfl rfl Try.sizeOf40 rfl rfl rfl (by show 0 + 0 < (An.c an0).length; rw [An.c_len]; decide) ?_
              refine cells_eq (ha1) ?_
              refine l_nil ?_
              refine k_block ?_
              refine k_then ?_
              refine c_seq ?_
              refine c_seq ?_
              refine c_region _ rfl ?_
              refine l_q rfl (q_move rfl rfl) rfl rfl ?_
              refine l_q rfl (q_eql rfl rfl rfl) rfl rfl ?_
              refine l_nil ?_
              refine k_then ?_
              refine Pre.caseB 95 rfl (fun h55 => ?_) (fun h55 => ?_)
              · try simp only [decide_eq_true_eq, decide_eq_false_iff_not, Bool.not_eq_true', Bool.not_eq_false'] at h55
                refine c_true rfl ?_
                refine c_region _ rfl ?_
                refine l_q rfl (q_move rfl rfl) rfl rfl ?_
                refine l_q rfl (q_quo_nn rfl rfl rfl (by omega) (by omega) (by omega)) rfl rfl ?_
                refine l_q rfl (q_fieldAddr rfl Try.underlying45 rfl Try.sizeOf40 rfl rfl) rfl rfl ?_
                obtain ⟨a2, ha2⟩ := an_code a1 ((kk : Int) / 8) (by first | decide | exact wf_n8 (k := kk / 8) (by omega) | (simp only [Lit.wf, Bool.and_eq_true, decide_eq_true_eq]; exact ⟨by show (-2 ^ 63 : Int) ≤ _; omega, by show _ ≤ (2 ^ 63 - 1 : Int); omega⟩))
                refine l_e rfl ?_
                refine e_store rfl rfl Try.sizeOf40 rfl rfl rfl (by show 0 + 0 < (An.c a1).length; rw [An.c_len]; decide) ?_
                refine cells_eq (ha2) ?_
                refine l_nil ?_
                refine k_then ?_
                refine c_seq ?_
                refine c_draw [(0, some true), (1, some true), (2, some true), (3, some true), (4, some true), (5, some true), (6, some true), (7, some true), (8, some false), (9, some false), (10, some true)] [] [(_, some true), (_, some true), (_, some true), (_, some true), (_, some true), (_, some true), (_, some true), (_, some true), (_, some false), (_, some false), (_, some true)] (fun w2 => RdV w2 vd (encI .i64) (nI D) ∧ (cellsE ba 45 a2.c).at w2) (blind_then (blind_then (blind_block (blind_then (blind_then (blind_block (blind_then blind_body))))))) rfl (by kernel_rfl) (by kernel_rfl) rfl rfl rfl (by kernel_rfl) St.drawn (fun _ h => ⟨h.rd 4 rfl, h.at 0 rfl⟩) ?_
                refine d_q rfl (q_move rfl rfl) rfl rfl ?_
                refine d_q rfl (q_move rfl rfl) rfl rfl ?_
                refine d_q rfl (q_move rfl rfl) rfl rfl ?_
                refine d_q rfl (q_move rfl rfl) rfl rfl ?_
                refine d_q rfl (q_indexV c rfl Try.underlying22 Try.sizeOf3 rfl (fun _ h => h.1) rfl rfl (by omega)) rfl rfl ?_
                refine d_q rfl (q_loadV c 0 rfl Try.isAgg3 rfl rfl (fun _ h => h.1) hdc rfl) rfl rfl ?_
                refine d_q rfl (q_loadCAgg (a2.c) rfl Try.isAgg45 Try.sizeOf45 rfl (fun _ h => h.2) (List.take_of_length_le (by rw [List.drop_zero, An.c_len]; exact Nat.le_refl _)) (An.c_len _)) rfl rfl ?_
                refine d_q rfl (q_build ((mkE c dn true a2 (by omega) (by omega)).c) rfl rfl (fun w => buildE c dn a2 (by omega) (by omega) w)) rfl rfl ?_
                refine d_e rfl ?_
                refine e_buildSliceV (sz := 22) [.tmp 106] rfl rfl rfl rfl rfl Try.underlying26 Try.sizeOf52 rfl Try.zeroValue52 (by simp [Value.cells, Ev.c_len]) ?_
                intro b57
                refine d_held (fun _ h => ⟨h.rd 5 rfl, h.at 1 rfl⟩) ?_
                refine pull3 ?_
                refine d_e rfl ?_
                refine e_append rfl rfl rfl Try.underlying26 Try.underlying26 info52 rfl rfl rfl rfl rfl (fun _ h => lit_rd (h.at 1 rfl) Ev.enc [(mkE c dn true a2 (by omega) (by omega))] rfl rfl) (by simp only [byt52, List.length_append, List.length_cons, List.length_nil]; omega) (by simp only [List.length_append, List.length_cons, List.length_nil]; omega) ?_
                intro v2
                refine pull1 ?_
                refine drop0 ?_
                refine d_held (fun _ h => ⟨h.rd 4 rfl, h.at 1 rfl⟩) ?_
                refine d_q rfl (q_assign rfl rfl) rfl rfl ?_
                refine d_nil ?_
                refine k_then ?_
                refine c_seq ?_
                refine c_region _ rfl ?_
                refine l_q rfl (q_move rfl rfl) rfl rfl ?_
                refine l_q rfl (q_move rfl rfl) rfl rfl ?_
                refine l_q rfl (q_indexV c rfl Try.underlying22 Try.sizeOf3 rfl (fun _ h => h.rd 4 rfl) rfl rfl (by omega)) rfl rfl ?_
                refine l_q rfl (q_loadV c 0 rfl Try.isAgg3 rfl rfl (fun _ h => h.rd 4 rfl) hdc rfl) rfl rfl ?_
                refine l_q rfl (q_inc rfl rfl rfl (by omega)) rfl rfl ?_
                refine l_q rfl (q_indexV c rfl Try.underlying22 Try.sizeOf3 rfl (fun _ h => h.rd 4 rfl) rfl rfl (by omega)) rfl rfl ?_
                refine pull4 ?_
                refine l_e rfl ?_
                refine e_storeV c 0 (((dn + 1 : Nat) : Int)) rfl rfl Try.sizeOf3 rfl rfl rfl (List.getElem?_eq_getElem (by omega)) (by decide) rfl ?_
                refine l_nil ?_
                refine k_then ?_
                refine c_exit ?_
                refine k_then_exit ?_
                refine k_block_exit ?_
                refine k_then ?_
                refine c_region _ rfl ?_
                refine l_q rfl (q_move rfl rfl) rfl rfl ?_
                refine l_q rfl (q_inc rfl rfl rfl (by omega)) rfl rfl ?_
                refine l_q rfl (q_assign rfl rfl) rfl rfl ?_
                refine l_nil ?_
                refine pull2 ?_
                refine drop0 ?_
                refine pull2 ?_
                refine drop0 ?_
                refine pull2 ?_
                refine pull2 ?_
                exact k_round ((i + 1, v2, E ++ [mkE c dn true a2 (by omega) (by omega)], B, D.set c (dn + 1))) (by dsimp only; omega) ⟨by dsimp only; omega, by dsimp only; rw [List.length_append]; simp only [List.length_cons, List.length_nil]; omega, by dsimp only; omega, hBl, by dsimp only; rw [List.length_set]; exact hDl, hfit⟩ (Sub.cons rfl (Sub.cons rfl (Sub.cons rfl (Sub.cons rfl (Sub.cons rfl (Sub.cons rfl (Sub.nil))))))) (fun _ h => by dsimp only; rw [nI_set]; exact h)
              · try simp only [decide_eq_true_eq, decide_eq_false_iff_not, Bool.not_eq_true', Bool.not_eq_false'] at h55
                refine c_false rfl ?_
                refine c_skip ?_
                refine k_then ?_
                refine c_seq ?_
                refine c_draw [(0, some true), (1, some true), (2, some true), (3, some true), (4, some true), (5, some true), (6, some true), (7, some true), (8, some false), (9, some false), (10, some true)] [] [(_, some true), (_, some true), (_, some true), (_, some true), (_, some true), (_, some true), (_, some true), (_, some true), (_, some false), (_, some false), (_, some true)] (fun w2 => RdV w2 vd (encI .i64) (nI D) ∧ (cellsE ba 45 a1.c).at w2) (blind_then (blind_then (blind_block (blind_then (blind_then (blind_block (blind_then blind_body))))))) rfl (by kernel_rfl) (by kernel_rfl) rfl rfl rfl (by kernel_rfl) St.drawn (fun _ h => ⟨h.rd 4 rfl, h.at 0 rfl⟩) ?_
                refine d_q rfl (q_move rfl rfl) rfl rfl ?_
                refine d_q rfl (q_move rfl rfl) rfl rfl ?_
                refine d_q rfl (q_move rfl rfl) rfl rfl ?_
                refine d_q rfl (q_move rfl rfl) rfl rfl ?_
                refine d_q rfl (q_indexV c rfl Try.underlying22 Try.sizeOf3 rfl (fun _ h => h.1) rfl rfl (by omega)) rfl rfl ?_
                refine d_q rfl (q_loadV c 0 rfl Try.isAgg3 rfl rfl (fun _ h => h.1) hdc rfl) rfl rfl ?_
                refine d_q rfl (q_loadCAgg (a1.c) rfl Try.isAgg45 Try.sizeOf45 rfl (fun _ h => h.2) (List.take_of_length_le (by rw [List.drop_zero, An.c_len]; exact Nat.le_refl _)) (An.c_len _)) rfl rfl ?_
                refine d_q rfl (q_build ((mkE c dn true a1 (by omega) (by omega)).c) rfl rfl (fun w => buildE c dn a1 (by omega) (by omega) w)) rfl rfl ?_
                refine d_e rfl ?_
                refine e_buildSliceV (sz := 22) [.tmp 106] rfl rfl rfl rfl rfl Try.underlying26 Try.sizeOf52 rfl Try.zeroValue52 (by simp [Value.cells, Ev.c_len]) ?_
                intro b59
                refine d_held (fun _ h => ⟨h.rd 5 rfl, h.at 1 rfl⟩) ?_
                refine pull3 ?_
                refine d_e rfl ?_
                refine e_append rfl rfl rfl Try.underlying26 Try.underlying26 info52 rfl rfl rfl rfl rfl (fun _ h => lit_rd (h.at 1 rfl) Ev.enc [(mkE c dn true a1 (by omega) (by omega))] rfl rfl) (by simp only [byt52, List.length_append, List.length_cons, List.length_nil]; omega) (by simp only [List.length_append, List.length_cons, List.length_nil]; omega) ?_
                intro v2
                refine pull1 ?_
                refine drop0 ?_
                refine d_held (fun _ h => ⟨h.rd 4 rfl, h.at 1 rfl⟩) ?_
                refine d_q rfl (q_assign rfl rfl) rfl rfl ?_
                refine d_nil ?_
                refine k_then ?_
                refine c_seq ?_
                refine c_region _ rfl ?_
                refine l_q rfl (q_move rfl rfl) rfl rfl ?_
                refine l_q rfl (q_move rfl rfl) rfl rfl ?_
                refine l_q rfl (q_indexV c rfl Try.underlying22 Try.sizeOf3 rfl (fun _ h => h.rd 4 rfl) rfl rfl (by omega)) rfl rfl ?_
                refine l_q rfl (q_loadV c 0 rfl Try.isAgg3 rfl rfl (fun _ h => h.rd 4 rfl) hdc rfl) rfl rfl ?_
                refine l_q rfl (q_inc rfl rfl rfl (by omega)) rfl rfl ?_
                refine l_q rfl (q_indexV c rfl Try.underlying22 Try.sizeOf3 rfl (fun _ h => h.rd 4 rfl) rfl rfl (by omega)) rfl rfl ?_
                refine pull4 ?_
                refine l_e rfl ?_
                refine e_storeV c 0 (((dn + 1 : Nat) : Int)) rfl rfl Try.sizeOf3 rfl rfl rfl (List.getElem?_eq_getElem (by omega)) (by decide) rfl ?_
                refine l_nil ?_
                refine k_then ?_
                refine c_exit ?_
                refine k_then_exit ?_
                refine k_block_exit ?_
                refine k_then ?_
                refine c_region _ rfl ?_
                refine l_q rfl (q_move rfl rfl) rfl rfl ?_
                refine l_q rfl (q_inc rfl rfl rfl (by omega)) rfl rfl ?_
                refine l_q rfl (q_assign rfl rfl) rfl rfl ?_
                refine l_nil ?_
                refine pull2 ?_
                refine drop0 ?_
                refine pull2 ?_
                refine drop0 ?_
                refine pull2 ?_
                refine pull2 ?_
                exact k_round ((i + 1, v2, E ++ [mkE c dn true a1 (by omega) (by omega)], B, D.set c (dn + 1))) (by dsimp only; omega) ⟨by dsimp only; omega, by dsimp only; rw [List.length_append]; simp only [List.length_cons, List.length_nil]; omega, by dsimp only; omega, hBl, by dsimp only; rw [List.length_set]; exact hDl, hfit⟩ (Sub.cons rfl (Sub.cons rfl (Sub.cons rfl (Sub.cons rfl (Sub.cons rfl (Sub.cons rfl (Sub.nil))))))) (fun _ h => by dsimp only; rw [nI_set]; exact h)
            · try simp only [decide_eq_true_eq, decide_eq_false_iff_not, Bool.not_eq_true', Bool.not_eq_false'] at h54
              refine c_false rfl ?_
              refine c_seq ?_
              refine c_region _ rfl ?_
              refine l_q rfl (q_fieldAddr rfl Try.underlying37 rfl Try.sizeOf3 rfl rfl) rfl rfl ?_
              refine l_q rfl (q_loadC rfl Try.isAgg3 rfl (fun _ h => h.at 1 rfl) rfl) rfl rfl ?_
              refine l_q rfl (q_eql rfl rfl rfl) rfl rfl ?_
              refine l_q rfl (q_move rfl rfl) rfl rfl ?_
              refine Pre.caseB 75 rfl (fun h60 => ?_) (fun h60 => ?_)
              · try simp only [decide_eq_true_eq, decide_eq_false_iff_not, Bool.not_eq_true', Bool.not_eq_false'] at h60
                refine l_q rfl (q_move rfl rfl) rfl rfl ?_
                refine l_q rfl (q_rem_nn rfl rfl rfl (by omega) (by omega)) rfl rfl ?_
                refine l_q rfl (q_eql rfl rfl rfl) rfl rfl ?_
                refine l_q rfl (q_pick_t rfl rfl rfl) rfl rfl ?_
                refine l_q rfl (q_assign rfl rfl) rfl rfl ?_
                refine l_nil ?_
                refine k_then ?_
                refine Pre.caseB 71 rfl (fun h61 => ?_) (fun h61 => ?_)
                · try simp only [decide_eq_true_eq, decide_eq_false_iff_not, Bool.not_eq_true', Bool.not_eq_false'] at h61
                  refine c_true rfl ?_
                  refine c_region _ rfl ?_
                  refine l_q rfl (q_move rfl rfl) rfl rfl ?_
                  refine l_e rfl ?_
                  refine e_call_00 (value_ex _) rfl rfl rfl Try.call26 rfl (fun _ _ => trivial) ?_
                  intro vl _
                  refine l_q rfl (q_fieldAddr rfl Try.underlying45 rfl Try.sizeOf4 rfl rfl) rfl rfl ?_
                  obtain ⟨a1, ha1⟩ := an_found an0 true
                  refine l_e rfl ?_
                  refine e_store rfl rfl Try.sizeOf4 rfl rfl rfl (by show 0 + 1 < (An.c an0).length; rw [An.c_len]; decide) ?_
                  refine cells_eq (ha1) ?_
                  refine l_q rfl (q_fieldAddr rfl Try.underlying45 rfl Try.sizeOf43 rfl rfl) rfl rfl ?_
                  obtain ⟨a2, ha2⟩ := an_val a1 vl
                  refine l_e rfl ?_
                  refine e_storeAgg rfl rfl Try.sizeOf43 rfl rfl (Kv.c_len _) (Kv.one _) (by show 0 + 2 + (Kv.c vl).length ≤ (An.c a1).length; rw [Kv.c_len, An.c_len]; decide) ?_
                  refine cells_eq (ha2) ?_
                  refine l_nil ?_
                  refine k_block ?_
                  refine k_then ?_
                  refine c_seq ?_
                  refine c_seq ?_
                  refine c_region _ rfl ?_
                  refine l_q rfl (q_move rfl rfl) rfl rfl ?_
                  refine l_q rfl (q_eql rfl rfl rfl) rfl rfl ?_
                  refine l_nil ?_
                  refine k_then ?_
                  refine Pre.caseB 95 rfl (fun h62 => ?_) (fun h62 => ?_)
                  · try simp only [decide_eq_true_eq, decide_eq_false_iff_not, Bool.not_eq_true', Bool.not_eq_false'] at h62
                    refine c_true rfl ?_
                    refine c_region _ rfl ?_
                    refine l_q rfl (q_move rfl rfl) rfl rfl ?_
                    refine l_q rfl (q_quo_nn rfl rfl rfl (by omega) (by omega) (by omega)) rfl rfl ?_
                    refine l_q rfl (q_fieldAddr rfl Try.underlying45 rfl Try.sizeOf40 rfl rfl) rfl rfl ?_
                    obtain ⟨a3, ha3⟩ := an_code a2 ((kk : Int) / 8) (by first | decide | exact wf_n8 (k := kk / 8) (by omega) | (simp only [Lit.wf, Bool.and_eq_true, decide_eq_true_eq]; exact ⟨by show (-2 ^ 63 : Int) ≤ _; omega, by show _ ≤ (2 ^ 63 - 1 : Int); omega⟩))
                    refine l_e rfl ?_
                    refine e_store rfl rfl Try.sizeOf40 rfl rfl rfl (by show 0 + 0 < (An.c a2).length; rw [An.c_len]; decide) ?_
                    refine cells_eq (ha3) ?_
                    refine l_nil ?_
                    refine k_then ?_
                    refine c_seq ?_
                    refine c_draw [(0, some true), (1, some true), (2, some true), (3, some true), (4, some true), (5, some true), (6, some true), (7, some true), (8, some false), (9, some false), (10, some true)] [] [(_, some true), (_, some true), (_, some true), (_, some true), (_, some true), (_, some true), (_, some true), (_, some true), (_, some false), (_, some false), (_, some true)] (fun w2 => RdV w2 vd (encI .i64) (nI D) ∧ (cellsE ba 45 a3.c).at w2) (blind_then (blind_then (blind_block (blind_then (blind_then (blind_block (blind_then blind_body))))))) rfl (by kernel_rfl) (by kernel_rfl) rfl rfl rfl (by kernel_rfl) St.drawn (fun _ h => ⟨h.rd 4 rfl, h.at 0 rfl⟩) ?_
                    refine d_q rfl (q_move rfl rfl) rfl rfl ?_
                    refine d_q rfl (q_move rfl rfl) rfl rfl ?_
                    refine d_q rfl (q_move rfl rfl) rfl rfl ?_
                    refine d_q rfl (q_move rfl rfl) rfl rfl ?_
                    refine d_q rfl (q_indexV c rfl Try.underlying22 Try.sizeOf3 rfl (fun _ h => h.1) rfl rfl (by omega)) rfl rfl ?_
                    refine d_q rfl (q_loadV c 0 rfl Try.isAgg3 rfl rfl (fun _ h => h.1) hdc rfl) rfl rfl ?_
                    refine d_q rfl (q_loadCAgg (a3.c) rfl Try.isAgg45 Try.sizeOf45 rfl (fun _ h => h.2) (List.take_of_length_le (by rw [List.drop_zero, An.c_len]; exact Nat.le_refl _)) (An.c_len _)) rfl rfl ?_
                    refine d_q rfl (q_build ((mkE c dn true a3 (by omega) (by omega)).c) rfl rfl (fun w => buildE c dn a3 (by omega) (by omega) w)) rfl rfl ?_
                    refine d_e rfl ?_
                    refine e_buildSliceV (sz := 22) [.tmp 106] rfl rfl rfl rfl rfl Try.underlying26 Try.sizeOf52 rfl Try.zeroValue52 (by simp [Value.cells, Ev.c_len]) ?_
                    intro b64
                    refine d_held (fun _ h => ⟨h.rd 5 rfl, h.at 1 rfl⟩) ?_
                    refine pull3 ?_
                    refine d_e rfl ?_
                    refine e_append rfl rfl rfl Try.underlying26 Try.underlying26 info52 rfl rfl rfl rfl rfl (fun _ h => lit_rd (h.at 1 rfl) Ev.enc [(mkE c dn true a3 (by omega) (by omega))] rfl rfl) (by simp only [byt52, List.length_append, List.length_cons, List.length_nil]; omega) (by simp only [List.length_append, List.length_cons, List.length_nil]; omega) ?_
                    intro v2
                    refine pull1 ?_
                    refine drop0 ?_
                    refine d_held (fun _ h => ⟨h.rd 4 rfl, h.at 1 rfl⟩) ?_
                    refine d_q rfl (q_assign rfl rfl) rfl rfl ?_
                    refine d_nil ?_
                    refine k_then ?_
                    refine c_seq ?_
                    refine c_region _ rfl ?_
                    refine l_q rfl (q_move rfl rfl) rfl rfl ?_
                    refine l_q rfl (q_move rfl rfl) rfl rfl ?_
                    refine l_q rfl (q_indexV c rfl Try.underlying22 Try.sizeOf3 rfl (fun _ h => h.rd 4 rfl) rfl rfl (by omega)) rfl rfl ?_
                    refine l_q rfl (q_loadV c 0 rfl Try.isAgg3 rfl rfl (fun _ h => h.rd 4 rfl) hdc rfl) rfl rfl ?_
                    refine l_q rfl (q_inc rfl rfl rfl (by omega)) rfl rfl ?_
                    refine l_q rfl (q_indexV c rfl Try.underlying22 Try.sizeOf3 rfl (fun _ h => h.rd 4 rfl) rfl rfl (by omega)) rfl rfl ?_
                    refine pull4 ?_
                    refine l_e rfl ?_
                    refine e_storeV c 0 (((dn + 1 : Nat) : Int)) rfl rfl Try.sizeOf3 rfl rfl rfl (List.getElem?_eq_getElem (by omega)) (by decide) rfl ?_
                    refine l_nil ?_
                    refine k_then ?_
                    refine c_exit ?_
                    refine k_then_exit ?_
                    refine k_block_exit ?_
                    refine k_then ?_
                    refine c_region _ rfl ?_
                    refine l_q rfl (q_move rfl rfl) rfl rfl ?_
                    refine l_q rfl (q_inc rfl rfl rfl (by omega)) rfl rfl ?_
                    refine l_q rfl (q_assign rfl rfl) rfl rfl ?_
                    refine l_nil ?_
                    refine pull2 ?_
                    refine drop0 ?_
                    refine pull2 ?_
                    refine drop0 ?_
                    refine pull2 ?_
                    refine pull2 ?_
                    exact k_round ((i + 1, v2, E ++ [mkE c dn true a3 (by omega) (by omega)], B, D.set c (dn + 1))) (by dsimp only; omega) ⟨by dsimp only; omega, by dsimp only; rw [List.length_append]; simp only [List.length_cons, List.length_nil]; omega, by dsimp only; omega, hBl, by dsimp only; rw [List.length_set]; exact hDl, hfit⟩ (Sub.cons rfl (Sub.cons rfl (Sub.cons rfl (Sub.cons rfl (Sub.cons rfl (Sub.cons rfl (Sub.nil))))))) (fun _ h => by dsimp only; rw [nI_set]; exact h)
                  · try simp only [decide_eq_true_eq, decide_eq_false_iff_not, Bool.not_eq_true', Bool.not_eq_false'] at h62
                    refine c_false rfl ?_
                    refine c_skip ?_
                    refine k_then ?_
                    refine c_seq ?_
                    refine c_draw [(0, some true), (1, some true), (2, some true), (3, some true), (4, some true), (5, some true), (6, some true), (7, some true), (8, some false), (9, some false), (10, some true)] [] [(_, some true), (_, some true), (_, some true), (_, some true), (_, some true), (_, some true), (_, some true), (_, some true), (_, some false), (_, some false), (_, some true)] (fun w2 => RdV w2 vd (encI .i64) (nI D) ∧ (cellsE ba 45 a2.c).at w2) (blind_then (blind_then (blind_block (blind_then (blind_then (blind_block (blind_then blind_body))))))) rfl (by kernel_rfl) (by kernel_rfl) rfl rfl rfl (by kernel_rfl) St.drawn (fun _ h => ⟨h.rd 4 rfl, h.at 0 rfl⟩) ?_
                    refine d_q rfl (q_move rfl rfl) rfl rfl ?_
                    refine d_q rfl (q_move rfl rfl) rfl rfl ?_
                    refine d_q rfl (q_move rfl rfl) rfl rfl ?_
                    refine d_q rfl (q_move rfl rfl) rfl rfl ?_
                    refine d_q rfl (q_indexV c rfl Try.underlying22 Try.sizeOf3 rfl (fun _ h => h.1) rfl rfl (by omega)) rfl rfl ?_
                    refine d_q rfl (q_loadV c 0 rfl Try.isAgg3 rfl rfl (fun _ h => h.1) hdc rfl) rfl rfl ?_
                    refine d_q rfl (q_loadCAgg (a2.c) rfl Try.isAgg45 Try.sizeOf45 rfl (fun _ h => h.2) (List.take_of_length_le (by rw [List.drop_zero, An.c_len]; exact Nat.le_refl _)) (An.c_len _)) rfl rfl ?_
                    refine d_q rfl (q_build ((mkE c dn true a2 (by omega) (by omega)).c) rfl rfl (fun w => buildE c dn a2 (by omega) (by omega) w)) rfl rfl ?_
                    refine d_e rfl ?_
                    refine e_buildSliceV (sz := 22) [.tmp 106] rfl rfl rfl rfl rfl Try.underlying26 Try.sizeOf52 rfl Try.zeroValue52 (by simp [Value.cells, Ev.c_len]) ?_
                    intro b66
                    refine d_held (fun _ h => ⟨h.rd 5 rfl, h.at 1 rfl⟩) ?_
                    refine pull3 ?_
                    refine d_e rfl ?_
                    refine e_append rfl rfl rfl Try.underlying26 Try.underlying26 info52 rfl rfl rfl rfl rfl (fun _ h => lit_rd (h.at 1 rfl) Ev.enc [(mkE c dn true a2 (by omega) (by omega))] rfl rfl) (by simp only [byt52, List.length_append, List.length_cons, List.length_nil]; omega) (by simp only [List.length_append, List.length_cons, List.length_nil]; omega) ?_
                    intro v2
                    refine pull1 ?_
                    refine drop0 ?_
                    refine d_held (fun _ h => ⟨h.rd 4 rfl, h.at 1 rfl⟩) ?_
                    refine d_q rfl (q_assign rfl rfl) rfl rfl ?_
                    refine d_nil ?_
                    refine k_then ?_
                    refine c_seq ?_
                    refine c_region _ rfl ?_
                    refine l_q rfl (q_move rfl rfl) rfl rfl ?_
                    refine l_q rfl (q_move rfl rfl) rfl rfl ?_
                    refine l_q rfl (q_indexV c rfl Try.underlying22 Try.sizeOf3 rfl (fun _ h => h.rd 4 rfl) rfl rfl (by omega)) rfl rfl ?_
                    refine l_q rfl (q_loadV c 0 rfl Try.isAgg3 rfl rfl (fun _ h => h.rd 4 rfl) hdc rfl) rfl rfl ?_
                    refine l_q rfl (q_inc rfl rfl rfl (by omega)) rfl rfl ?_
                    refine l_q rfl (q_indexV c rfl Try.underlying22 Try.sizeOf3 rfl (fun _ h => h.rd 4 rfl) rfl rfl (by omega)) rfl rfl ?_
                    refine pull4 ?_
                    refine l_e rfl ?_
                    refine e_storeV c 0 (((dn + 1 : Nat) : Int)) rfl rfl Try.sizeOf3 rfl rfl rfl (List.getElem?_eq_getElem (by omega)) (by decide) rfl ?_
                    refine l_nil ?_
                    refine k_then ?_
                    refine c_exit ?_
                    refine k_then_exit ?_
                    refine k_block_exit ?_
                    refine k_then ?_
                    refine c_region _ rfl ?_
                    refine l_q rfl (q_move rfl rfl) rfl rfl ?_
                    refine l_q rfl (q_inc rfl rfl rfl (by omega)) rfl rfl ?_
                    refine l_q rfl (q_assign rfl rfl) rfl rfl ?_
                    refine l_nil ?_
                    refine pull2 ?_
                    refine drop0 ?_
                    refine pull2 ?_
                    refine drop0 ?_
                    refine pull2 ?_
                    refine pull2 ?_
                    exact k_round ((i + 1, v2, E ++ [mkE c dn true a2 (by omega) (by omega)], B, D.set c (dn + 1))) (by dsimp only; omega) ⟨by dsimp only; omega, by dsimp only; rw [List.length_append]; simp only [List.length_cons, List.length_nil]; omega, by dsimp only; omega, hBl, by dsimp only; rw [List.length_set]; exact hDl, hfit⟩ (Sub.cons rfl (Sub.cons rfl (Sub.cons rfl (Sub.cons rfl (Sub.cons rfl (Sub.cons rfl (Sub.nil))))))) (fun _ h => by dsimp only; rw [nI_set]; exact h)
                · try simp only [decide_eq_true_eq, decide_eq_false_iff_not, Bool.not_eq_true', Bool.not_eq_false'] at h61
                  refine c_false rfl ?_
                  refine c_seq ?_
                  refine c_region _ rfl ?_
                  refine l_q rfl (q_fieldAddr rfl Try.underlying37 rfl Try.sizeOf3 rfl rfl) rfl rfl ?_
                  refine l_q rfl (q_loadC rfl Try.isAgg3 rfl (fun _ h => h.at 1 rfl) rfl) rfl rfl ?_
                  refine l_q rfl (q_neq rfl rfl rfl) rfl rfl ?_
                  refine l_q rfl (q_move rfl rfl) rfl rfl ?_
                  refine Pre.caseB 88 rfl (fun h67 => ?_) (fun h67 => ?_)
                  · try simp only [decide_eq_true_eq, decide_eq_false_iff_not, Bool.not_eq_true', Bool.not_eq_false'] at h67
                    refine l_q rfl (q_move rfl rfl) rfl rfl ?_
                    refine l_q rfl (q_rem_nn rfl rfl rfl (by omega) (by omega)) rfl rfl ?_
                    refine l_q rfl (q_eql rfl rfl rfl) rfl rfl ?_
                    refine l_q rfl (q_pick_t rfl rfl rfl) rfl rfl ?_
                    refine l_q rfl (q_assign rfl rfl) rfl rfl ?_
                    refine l_nil ?_
                    refine k_then ?_
                    refine Pre.caseB 84 rfl (fun h68 => ?_) (fun h68 => ?_)
                    · try simp only [decide_eq_true_eq, decide_eq_false_iff_not, Bool.not_eq_true', Bool.not_eq_false'] at h68
                      refine c_true rfl ?_
                      refine c_region _ rfl ?_
                      refine l_q rfl (q_fieldAddr rfl Try.underlying45 rfl Try.sizeOf40 rfl rfl) rfl rfl ?_
                      obtain ⟨a1, ha1⟩ := an_code an0 3 (by first | decide | exact wf_n8 (k := kk / 8) (by omega) | (simp only [Lit.wf, Bool.and_eq_true, decide_eq_true_eq]; exact ⟨by show (-2 ^ 63 : Int) ≤ _; omega, by show _ ≤ (2 ^ 63 - 1 : Int); omega⟩))
                      refine l_e rfl ?_
                      refine e_store rfl rfl Try.sizeOf40 rfl rfl rfl (by show 0 + 0 < (An.c an0).length; rw [An.c_len]; decide) ?_
                      refine cells_eq (ha1) ?_
                      refine l_nil ?_
                      refine k_block ?_
                      refine k_then ?_
                      refine c_seq ?_
                      refine c_seq ?_
                      refine c_region _ rfl ?_
                      refine l_q rfl (q_move rfl rfl) rfl rfl ?_
                      refine l_q rfl (q_eql rfl rfl rfl) rfl rfl ?_
                      refine l_nil ?_
                      refine k_then ?_
                      refine Pre.caseB 95 rfl (fun h69 => ?_) (fun h69 => ?_)
                      · try simp only [decide_eq_true_eq, decide_eq_false_iff_not, Bool.not_eq_true', Bool.not_eq_false'] at h69
                        refine c_true rfl ?_
                        refine c_region _ rfl ?_
                        refine l_q rfl (q_move rfl rfl) rfl rfl ?_
                        refine l_q rfl (q_quo_nn rfl rfl rfl (by omega) (by omega) (by omega)) rfl rfl ?_
                        refine l_q rfl (q_fieldAddr rfl Try.underlying45 rfl Try.sizeOf40 rfl rfl) rfl rfl ?_
                        obtain ⟨a2, ha2⟩ := an_code a1 ((kk : Int) / 8) (by first | decide | exact wf_n8 (k := kk / 8) (by omega) | (simp only [Lit.wf, Bool.and_eq_true, decide_eq_true_eq]; exact ⟨by show (-2 ^ 63 : Int) ≤ _; omega, by show _ ≤ (2 ^ 63 - 1 : Int); omega⟩))
                        refine l_e rfl ?_
                        refine e_store rfl rfl Try.sizeOf40 rfl rfl rfl (by show 0 + 0 < (An.c a1).length; rw [An.c_len]; decide) ?_
                        refine cells_eq (ha2) ?_
                        refine l_nil ?_
                        refine k_then ?_
                        refine c_seq ?_
                        refine c_draw [(0, some true), (1, some true), (2, some true), (3, some true), (4, some true), (5, some true), (6, some true), (7, some true), (8, some false), (9, some false), (10, some true)] [] [(_, some true), (_, some true), (_, some true), (_, some true), (_, some true), (_, some true), (_, some true), (_, some true), (_, some false), (_, some false), (_, some true)] (fun w2 => RdV w2 vd (encI .i64) (nI D) ∧ (cellsE ba 45 a2.c).at w2) (blind_then (blind_then (blind_block (blind_then (blind_then (blind_block (blind_then blind_body))))))) rfl (by kernel_rfl) (by kernel_rfl) rfl rfl rfl (by kernel_rfl) St.drawn (fun _ h => ⟨h.rd 4 rfl, h.at 0 rfl⟩) ?_
                        refine d_q rfl (q_move rfl rfl) rfl rfl ?_
                        refine d_q rfl (q_move rfl rfl) rfl rfl ?_
                        refine d_q rfl (q_move rfl rfl) rfl rfl ?_
                        refine d_q rfl (q_move rfl rfl) rfl rfl ?_
                        refine d_q rfl (q_indexV c rfl Try.underlying22 Try.sizeOf3 rfl (fun _ h => h.1) rfl rfl (by omega)) rfl rfl ?_
                        refine d_q rfl (q_loadV c 0 rfl Try.isAgg3 rfl rfl (fun _ h => h.1) hdc rfl) rfl rfl ?_
                        refine d_q rfl (q_loadCAgg (a2.c) rfl Try.isAgg45 Try.sizeOf45 rfl (fun _ h => h.2) (List.take_of_length_le (by rw [List.drop_zero, An.c_len]; exact Nat.le_refl _)) (An.c_len _)) rfl rfl ?_
                        refine d_q rfl (q_build ((mkE c dn true a2 (by omega) (by omega)).c) rfl rfl (fun w => buildE c dn a2 (by omega) (by omega) w)) rfl rfl ?_
                        refine d_e rfl ?_
                        refine e_buildSliceV (sz := 22) [.tmp 106] rfl rfl rfl rfl rfl Try.underlying26 Try.sizeOf52 rfl Try.zeroValue52 (by simp [Value.cells, Ev.c_len]) ?_
                        intro b71
                        refine d_held (fun _ h => ⟨h.rd 5 rfl, h.at 1 rfl⟩) ?_
                        refine pull3 ?_
                        refine d_e rfl ?_
                        refine e_append rfl rfl rfl Try.underlying26 Try.underlying26 info52 rfl rfl rfl rfl rfl (fun _ h => lit_rd (h.at 1 rfl) Ev.enc [(mkE c dn true a2 (by omega) (by omega))] rfl rfl) (by simp only [byt52, List.length_append, List.length_cons, List.length_nil]; omega) (by simp only [List.length_append, List.length_cons, List.length_nil]; omega) ?_
                        intro v2
                        refine pull1 ?_
                        refine drop0 ?_
                        refine d_held (fun _ h => ⟨h.rd 4 rfl, h.at 1 rfl⟩) ?_
                        refine d_q rfl (q_assign rfl rfl) rfl rfl ?_
                        refine d_nil ?_
                        refine k_then ?_
                        refine c_seq ?_
                        refine c_region _ rfl ?_
                        refine l_q rfl (q_move rfl rfl) rfl rfl ?_
                        refine l_q rfl (q_move rfl rfl) rfl rfl ?_
                        refine l_q rfl (q_indexV c rfl Try.underlying22 Try.sizeOf3 rfl (fun _ h => h.rd 4 rfl) rfl rfl (by omega)) rfl rfl ?_
                        refine l_q rfl (q_loadV c 0 rfl Try.isAgg3 rfl rfl (fun _ h => h.rd 4 rfl) hdc rfl) rfl rfl ?_
                        refine l_q rfl (q_inc rfl rfl rfl (by omega)) rfl rfl ?_
                        refine l_q rfl (q_indexV c rfl Try.underlying22 Try.sizeOf3 rfl (fun _ h => h.rd 4 rfl) rfl rfl (by omega)) rfl rfl ?_
                        refine pull4 ?_
                        refine l_e rfl ?_
                        refine e_storeV c 0 (((dn + 1 : Nat) : Int)) rfl rfl Try.sizeOf3 rfl rfl rfl (List.getElem?_eq_getElem (by omega)) (by decide) rfl ?_
                        refine l_nil ?_
                        refine k_then ?_
                        refine c_exit ?_
                        refine k_then_exit ?_
                        refine k_block_exit ?_
                        refine k_then ?_
                        refine c_region _ rfl ?_
                        refine l_q rfl (q_move rfl rfl) rfl rfl ?_
                        refine l_q rfl (q_inc rfl rfl rfl (by omega)) rfl rfl ?_
                        refine l_q rfl (q_assign rfl rfl) rfl rfl ?_
                        refine l_nil ?_
                        refine pull2 ?_
                        refine drop0 ?_
                        refine pull2 ?_
                        refine drop0 ?_
                        refine pull2 ?_
                        refine pull2 ?_
                        exact k_round ((i + 1, v2, E ++ [mkE c dn true a2 (by omega) (by omega)], B, D.set c (dn + 1))) (by dsimp only; omega) ⟨by dsimp only; omega, by dsimp only; rw [List.length_append]; simp only [List.length_cons, List.length_nil]; omega, by dsimp only; omega, hBl, by dsimp only; rw [List.length_set]; exact hDl, hfit⟩ (Sub.cons rfl (Sub.cons rfl (Sub.cons rfl (Sub.cons rfl (Sub.cons rfl (Sub.cons rfl (Sub.nil))))))) (fun _ h => by dsimp only; rw [nI_set]; exact h)
                      · try simp only [decide_eq_true_eq, decide_eq_false_iff_not, Bool.not_eq_true', Bool.not_eq_false'] at h69
                        refine c_false rfl ?_
                        refine c_skip ?_
                        refine k_then ?_
                        refine c_seq ?_
                        refine c_draw [(0, some true), (1, some true), (2, some true), (3, some true), (4, some true), (5, some true), (6, some true), (7, some true), (8, some false), (9, some false), (10, some true)] [] [(_, some true), (_, some true), (_, some true), (_, some true), (_, some true), (_, some true), (_, some true), (_, some true), (_, some false), (_, some false), (_, some true)] (fun w2 => RdV w2 vd (encI .i64) (nI D) ∧ (cellsE ba 45 a1.c).at w2) (blind_then (blind_then (blind_block (blind_then (blind_then (blind_block (blind_then blind_body))))))) rfl (by kernel_rfl) (by kernel_rfl) rfl rfl rfl (by kernel_rfl) St.drawn (fun _ h => ⟨h.rd 4 rfl, h.at 0 rfl⟩) ?_
                        refine d_q rfl (q_move rfl rfl) rfl rfl ?_
                        refine d_q rfl (q_move rfl rfl) rfl rfl ?_
                        refine d_q rfl (q_move rfl rfl) rfl rfl ?_
                        refine d_q rfl (q_move rfl rfl) rfl rfl ?_
                        refine d_q rfl (q_indexV c rfl Try.underlying22 Try.sizeOf3 rfl (fun _ h => h.1) rfl rfl (by omega)) rfl rfl ?_
                        refine d_q rfl (q_loadV c 0 rfl Try.isAgg3 rfl rfl (fun _ h => h.1) hdc rfl) rfl rfl ?_
                        refine d_q rfl (q_loadCAgg (a1.c) rfl Try.isAgg45 Try.sizeOf45 rfl (fun _ h => h.2) (List.take_of_length_le (by rw [List.drop_zero, An.c_len]; exact Nat.le_refl _)) (An.c_len _)) rfl rfl ?_
                        refine d_q rfl (q_build ((mkE c dn true a1 (by omega) (by omega)).c) rfl rfl (fun w => buildE c dn a1 (by omega) (by omega) w)) rfl rfl ?_
                        refine d_e rfl ?_
                        refine e_buildSliceV (sz := 22) [.tmp 106] rfl rfl rfl rfl rfl Try.underlying26 Try.sizeOf52 rfl Try.zeroValue52 (by simp [Value.cells, Ev.c_len]) ?_
                        intro b73
                        refine d_held (fun _ h => ⟨h.rd 5 rfl, h.at 1 rfl⟩) ?_
                        refine pull3 ?_
                        refine d_e rfl ?_
                        refine e_append rfl rfl rfl Try.underlying26 Try.underlying26 info52 rfl rfl rfl rfl rfl (fun _ h => lit_rd (h.at 1 rfl) Ev.enc [(mkE c dn true a1 (by omega) (by omega))] rfl rfl) (by simp only [byt52, List.length_append, List.length_cons, List.length_nil]; omega) (by simp only [List.length_append, List.length_cons, List.length_nil]; omega) ?_
                        intro v2
                        refine pull1 ?_
                        refine drop0 ?_
                        refine d_held (fun _ h => ⟨h.rd 4 rfl, h.at 1 rfl⟩) ?_
                        refine d_q rfl (q_assign rfl rfl) rfl rfl ?_
                        refine d_nil ?_
                        refine k_then ?_
                        refine c_seq ?_
                        refine c_region _ rfl ?_
                        refine l_q rfl (q_move rfl rfl) rfl rfl ?_
                        refine l_q rfl (q_move rfl rfl) rfl rfl ?_
                        refine l_q rfl (q_indexV c rfl Try.underlying22 Try.sizeOf3 rfl (fun _ h => h.rd 4 rfl) rfl rfl (by omega)) rfl rfl ?_
                        refine l_q rfl (q_loadV c 0 rfl Try.isAgg3 rfl rfl (fun _ h => h.rd 4 rfl) hdc rfl) rfl rfl ?_
                        refine l_q rfl (q_inc rfl rfl rfl (by omega)) rfl rfl ?_
                        refine l_q rfl (q_indexV c rfl Try.underlying22 Try.sizeOf3 rfl (fun _ h => h.rd 4 rfl) rfl rfl (by omega)) rfl rfl ?_
                        refine pull4 ?_
                        refine l_e rfl ?_
                        refine e_storeV c 0 (((dn + 1 : Nat) : Int)) rfl rfl Try.sizeOf3 rfl rfl rfl (List.getElem?_eq_getElem (by omega)) (by decide) rfl ?_
                        refine l_nil ?_
                        refine k_then ?_
                        refine c_exit ?_
                        refine k_then_exit ?_
                        refine k_block_exit ?_
                        refine k_then ?_
                        refine c_region _ rfl ?_
                        refine l_q rfl (q_move rfl rfl) rfl rfl ?_
                        refine l_q rfl (q_inc rfl rfl rfl (by omega)) rfl rfl ?_
                        refine l_q rfl (q_assign rfl rfl) rfl rfl ?_
                        refine l_nil ?_
                        refine pull2 ?_
                        refine drop0 ?_
                        refine pull2 ?_
                        refine drop0 ?_
                        refine pull2 ?_
                        refine pull2 ?_
                        exact k_round ((i + 1, v2, E ++ [mkE c dn true a1 (by omega) (by omega)], B, D.set c (dn + 1))) (by dsimp only; omega) ⟨by dsimp only; omega, by dsimp only; rw [List.length_append]; simp only [List.length_cons, List.length_nil]; omega, by dsimp only; omega, hBl, by dsimp only; rw [List.length_set]; exact hDl, hfit⟩ (Sub.cons rfl (Sub.cons rfl (Sub.cons rfl (Sub.cons rfl (Sub.cons rfl (Sub.cons rfl (Sub.nil))))))) (fun _ h => by dsimp only; rw [nI_set]; exact h)
                    · try simp only [decide_eq_true_eq, decide_eq_false_iff_not, Bool.not_eq_true', Bool.not_eq_false'] at h68
                      refine c_false rfl ?_
                      refine c_skip ?_
                      refine k_block ?_
                      refine k_then ?_
                      refine c_seq ?_
                      refine c_seq ?_
                      refine c_region _ rfl ?_
                      refine l_q rfl (q_move rfl rfl) rfl rfl ?_
                      refine l_q rfl (q_eql rfl rfl rfl) rfl rfl ?_
                      refine l_nil ?_
                      refine k_then ?_
                      refine Pre.caseB 95 rfl (fun h74 => ?_) (fun h74 => ?_)
                      · try simp only [decide_eq_true_eq, decide_eq_false_iff_not, Bool.not_eq_true', Bool.not_eq_false'] at h74
                        refine c_true rfl ?_
                        refine c_region _ rfl ?_
                        refine l_q rfl (q_move rfl rfl) rfl rfl ?_
                        refine l_q rfl (q_quo_nn rfl rfl rfl (by omega) (by omega) (by omega)) rfl rfl ?_
                        refine l_q rfl (q_fieldAddr rfl Try.underlying45 rfl Try.sizeOf40 rfl rfl) rfl rfl ?_
                        obtain ⟨a1, ha1⟩ := an_code an0 ((kk : Int) / 8) (by first | decide | exact wf_n8 (k := kk / 8) (by omega) | (simp only [Lit.wf, Bool.and_eq_true, decide_eq_true_eq]; exact ⟨by show (-2 ^ 63 : Int) ≤ _; omega, by show _ ≤ (2 ^ 63 - 1 : Int); omega⟩))
                        refine l_e rfl ?_
                        refine e_store rfl rfl Try.sizeOf40 rfl rfl rfl (by show 0 + 0 < (An.c an0).length; rw [An.c_len]; decide) ?_
                        refine cells_eq (ha1) ?_
                        refine l_nil ?_
                        refine k_then ?_
                        refine c_seq ?_
                        refine c_draw [(0, some true), (1, some true), (2, some true), (3, some true), (4, some true), (5, some true), (6, some true), (7, some true), (8, some false), (9, some false), (10, some true)] [] [(_, some true), (_, some true), (_, some true), (_, some true), (_, some true), (_, some true), (_, some true), (_, some true), (_, some false), (_, some false), (_, some true)] (fun w2 => RdV w2 vd (encI .i64) (nI D) ∧ (cellsE ba 45 a1.c).at w2) (blind_then (blind_then (blind_block (blind_then (blind_then (blind_block (blind_then blind_body))))))) rfl (by kernel_rfl) (by kernel_rfl) rfl rfl rfl (by kernel_rfl) St.drawn (fun _ h => ⟨h.rd 4 rfl, h.at 0 rfl⟩) ?_
                        refine d_q rfl (q_move rfl rfl) rfl rfl ?_
                        refine d_q rfl (q_move rfl rfl) rfl rfl ?_
                        refine d_q rfl (q_move rfl rfl) rfl rfl ?_
                        refine d_q rfl (q_move rfl rfl) rfl rfl ?_
                        refine d_q rfl (q_indexV c rfl Try.underlying22 Try.sizeOf3 rfl (fun _ h => h.1) rfl rfl (by omega)) rfl rfl ?_
                        refine d_q rfl (q_loadV c 0 rfl Try.isAgg3 rfl rfl (fun _ h => h.1) hdc rfl) rfl rfl ?_
                        refine d_q rfl (q_loadCAgg (a1.c) rfl Try.isAgg45 Try.sizeOf45 rfl (fun _ h => h.2) (List.take_of_length_le (by rw [List.drop_zero, An.c_len]; exact Nat.le_refl _)) (An.c_len _)) rfl rfl ?_
                        refine d_q rfl (q_build ((mkE c dn true a1 (by omega) (by omega)).c) rfl rfl (fun w => buildE c dn a1 (by omega) (by omega) w)) rfl rfl ?_
                        refine d_e rfl ?_
                        refine e_buildSliceV (sz := 22) [.tmp 106] rfl rfl rfl rfl rfl Try.underlying26 Try.sizeOf52 rfl Try.zeroValue52 (by simp [Value.cells, Ev.c_len]) ?_
                        intro b76
                        refine d_held (fun _ h => ⟨h.rd 5 rfl, h.at 1 rfl⟩) ?_
                        refine pull3 ?_
                        refine d_e rfl ?_
                        refine e_append rfl rfl rfl Try.underlying26 Try.underlying26 info52 rfl rfl rfl rfl rfl (fun _ h => lit_rd (h.at 1 rfl) Ev.enc [(mkE c dn true a1 (by omega) (by omega))] rfl rfl) (by simp only [byt52, List.length_append, List.length_cons, List.length_nil]; omega) (by simp only [List.length_append, List.length_cons, List.length_nil]; omega) ?_
                        intro v2
                        refine pull1 ?_
                        refine drop0 ?_
                        refine d_held (fun _ h => ⟨h.rd 4 rfl, h.at 1 rfl⟩) ?_
                        refine d_q rfl (q_assign rfl rfl) rfl rfl ?_
                        refine d_nil ?_
                        refine k_then ?_
                        refine c_seq ?_
                        refine c_region _ rfl ?_
                        refine l_q rfl (q_move rfl rfl) rfl rfl ?_
                        refine l_q rfl (q_move rfl rfl) rfl rfl ?_
                        refine l_q rfl (q_indexV c rfl Try.underlying22 Try.sizeOf3 rfl (fun _ h => h.rd 4 rfl) rfl rfl (by omega)) rfl rfl ?_
                        refine l_q rfl (q_loadV c 0 rfl Try.isAgg3 rfl rfl (fun _ h => h.rd 4 rfl) hdc rfl) rfl rfl ?_
                        refine l_q rfl (q_inc rfl rfl rfl (by omega)) rfl rfl ?_
                        refine l_q rfl (q_indexV c rfl Try.underlying22 Try.sizeOf3 rfl (fun _ h => h.rd 4 rfl) rfl rfl (by omega)) rfl rfl ?_
                        refine pull4 ?_
                        refine l_e rfl ?_
                        refine e_storeV c 0 (((dn + 1 : Nat) : Int)) rfl rfl Try.sizeOf3 rfl rfl rfl (List.getElem?_eq_getElem (by omega)) (by decide) rfl ?_
                        refine l_nil ?_
                        refine k_then ?_
                        refine c_exit ?_
                        refine k_then_exit ?_
                        refine k_block_exit ?_
                        refine k_then ?_
                        refine c_region _ rfl ?_
                        refine l_q rfl (q_move rfl rfl) rfl rfl ?_
                        refine l_q rfl (q_inc rfl rfl rfl (by omega)) rfl rfl ?_
                        refine l_q rfl (q_assign rfl rfl) rfl rfl ?_
                        refine l_nil ?_
                        refine pull2 ?_
                        refine drop0 ?_
                        refine pull2 ?_
                        refine drop0 ?_
                        refine pull2 ?_
                        refine pull2 ?_
                        exact k_round ((i + 1, v2, E ++ [mkE c dn true a1 (by omega) (by omega)], B, D.set c (dn + 1))) (by dsimp only; omega) ⟨by dsimp only; omega, by dsimp only; rw [List.length_append]; simp only [List.length_cons, List.length_nil]; omega, by dsimp only; omega, hBl, by dsimp only; rw [List.length_set]; exact hDl, hfit⟩ (Sub.cons rfl (Sub.cons rfl (Sub.cons rfl (Sub.cons rfl (Sub.cons rfl (Sub.cons rfl (Sub.nil))))))) (fun _ h => by dsimp only; rw [nI_set]; exact h)
                      · try simp only [decide_eq_true_eq, decide_eq_false_iff_not, Bool.not_eq_true', Bool.not_eq_false'] at h74
                        refine c_false rfl ?_
                        refine c_skip ?_
                        refine k_then ?_
                        refine c_seq ?_
                        refine c_draw [(0, some true), (1, some true), (2, some true), (3, some true), (4, some true), (5, some true), (6, some true), (7, some true), (8, some false), (9, some false), (10, some true)] [] [(_, some true), (_, some true), (_, some true), (_, some true), (_, some true), (_, some true), (_, some true), (_, some true), (_, some false), (_, some false), (_, some true)] (fun w2 => RdV w2 vd (encI .i64) (nI D) ∧ (cellsE ba 45 an0.c).at w2) (blind_then (blind_then (blind_block (blind_then (blind_then (blind_block (blind_then blind_body))))))) rfl (by kernel_rfl) (by kernel_rfl) rfl rfl rfl (by kernel_rfl) St.drawn (fun _ h => ⟨h.rd 4 rfl, h.at 0 rfl⟩) ?_
                        refine d_q rfl (q_move rfl rfl) rfl rfl ?_
                        refine d_q rfl (q_move rfl rfl) rfl rfl ?_
                        refine d_q rfl (q_move rfl rfl) rfl rfl ?_
                        refine d_q rfl (q_move rfl rfl) rfl rfl ?_
                        refine d_q rfl (q_indexV c rfl Try.underlying22 Try.sizeOf3 rfl (fun _ h => h.1) rfl rfl (by omega)) rfl rfl ?_
                        refine d_q rfl (q_loadV c 0 rfl Try.isAgg3 rfl rfl (fun _ h => h.1) hdc rfl) rfl rfl ?_
                        refine d_q rfl (q_loadCAgg (an0.c) rfl Try.isAgg45 Try.sizeOf45 rfl (fun _ h => h.2) (List.take_of_length_le (by rw [List.drop_zero, An.c_len]; exact Nat.le_refl _)) (An.c_len _)) rfl rfl ?_
                        refine d_q rfl (q_build ((mkE c dn true an0 (by omega) (by omega)).c) rfl rfl (fun w => buildE c dn an0 (by omega) (by omega) w)) rfl rfl ?_
                        refine d_e rfl ?_
                        refine e_buildSliceV (sz := 22) [.tmp 106] rfl rfl rfl rfl rfl Try.underlying26 Try.sizeOf52 rfl Try.zeroValue52 (by simp [Value.cells, Ev.c_len]) ?_
                        intro b78
                        refine d_held (fun _ h => ⟨h.rd 5 rfl, h.at 1 rfl⟩) ?_
                        refine pull3 ?_
                        refine d_e rfl ?_
                        refine e_append rfl rfl rfl Try.underlying26 Try.underlying26 info52 rfl rfl rfl rfl rfl (fun _ h => lit_rd (h.at 1 rfl) Ev.enc [(mkE c dn true an0 (by omega) (by omega))] rfl rfl) (by simp only [byt52, List.length_append, List.length_cons, List.length_nil]; omega) (by simp only [List.length_append, List.length_cons, List.length_nil]; omega) ?_
                        intro v2
                        refine pull1 ?_
                        refine drop0 ?_
                        refine d_held (fun _ h => ⟨h.rd 4 rfl, h.at 1 rfl⟩) ?_
                        refine d_q rfl (q_assign rfl rfl) rfl rfl ?_
                        refine d_nil ?_
                        refine k_then ?_
                        refine c_seq ?_
                        refine c_region _ rfl ?_
                        refine l_q rfl (q_move rfl rfl) rfl rfl ?_
                        refine l_q rfl (q_move rfl rfl) rfl rfl ?_
                        refine l_q rfl (q_indexV c rfl Try.underlying22 Try.sizeOf3 rfl (fun _ h => h.rd 4 rfl) rfl rfl (by omega)) rfl rfl ?_
                        refine l_q rfl (q_loadV c 0 rfl Try.isAgg3 rfl rfl (fun _ h => h.rd 4 rfl) hdc rfl) rfl rfl ?_
                        refine l_q rfl (q_inc rfl rfl rfl (by omega)) rfl rfl ?_
                        refine l_q rfl (q_indexV c rfl Try.underlying22 Try.sizeOf3 rfl (fun _ h => h.rd 4 rfl) rfl rfl (by omega)) rfl rfl ?_
                        refine pull4 ?_
                        refine l_e rfl ?_
                        refine e_storeV c 0 (((dn + 1 : Nat) : Int)) rfl rfl Try.sizeOf3 rfl rfl rfl (List.getElem?_eq_getElem (by omega)) (by decide) rfl ?_
                        refine l_nil ?_
                        refine k_then ?_
                        refine c_exit ?_
                        refine k_then_exit ?_
                        refine k_block_exit ?_
                        refine k_then ?_
                        refine c_region _ rfl ?_
                        refine l_q rfl (q_move rfl rfl) rfl rfl ?_
                        refine l_q rfl (q_inc rfl rfl rfl (by omega)) rfl rfl ?_
                        refine l_q rfl (q_assign rfl rfl) rfl rfl ?_
                        refine l_nil ?_
                        refine pull2 ?_
                        refine drop0 ?_
                        refine pull2 ?_
                        refine drop0 ?_
                        refine pull2 ?_
                        refine pull2 ?_
                        exact k_round ((i + 1, v2, E ++ [mkE c dn true an0 (by omega) (by omega)], B, D.set c (dn + 1))) (by dsimp only; omega) ⟨by dsimp only; omega, by dsimp only; rw [List.length_append]; simp only [List.length_cons, List.length_nil]; omega, by dsimp only; omega, hBl, by dsimp only; rw [List.length_set]; exact hDl, hfit⟩ (Sub.cons rfl (Sub.cons rfl (Sub.cons rfl (Sub.cons rfl (Sub.cons rfl (Sub.cons rfl (Sub.nil))))))) (fun _ h => by dsimp only; rw [nI_set]; exact h)
                  · try simp only [decide_eq_true_eq, decide_eq_false_iff_not, Bool.not_eq_true', Bool.not_eq_false'] at h67
                    refine l_not rfl rfl rfl ?_
                    refine l_not rfl rfl rfl ?_
                    refine l_not rfl rfl rfl ?_
                    refine l_q rfl (q_pick_f rfl rfl rfl) rfl rfl ?_
                    refine l_q rfl (q_assign rfl rfl) rfl rfl ?_
                    refine l_nil ?_
                    refine k_then ?_
                    refine c_false rfl ?_
                    refine c_skip ?_
                    refine k_block ?_
                    refine k_then ?_
                    refine c_seq ?_
                    refine c_seq ?_
                    refine c_region _ rfl ?_
                    refine l_q rfl (q_move rfl rfl) rfl rfl ?_
                    refine l_q rfl (q_eql rfl rfl rfl) rfl rfl ?_
                    refine l_nil ?_
                    refine k_then ?_
                    refine Pre.caseB 95 rfl (fun h79 => ?_) (fun h79 => ?_)
                    · try simp only [decide_eq_true_eq, decide_eq_false_iff_not, Bool.not_eq_true', Bool.not_eq_false'] at h79
                      refine c_true rfl ?_
                      refine c_region _ rfl ?_
                      refine l_q rfl (q_move rfl rfl) rfl rfl ?_
                      refine l_q rfl (q_quo_nn rfl rfl rfl (by omega) (by omega) (by omega)) rfl rfl ?_
                      refine l_q rfl (q_fieldAddr rfl Try.underlying45 rfl Try.sizeOf40 rfl rfl) rfl rfl ?_
                      obtain ⟨a1, ha1⟩ := an_code an0 ((kk : Int) / 8) (by first | decide | exact wf_n8 (k := kk / 8) (by omega) | (simp only [Lit.wf, Bool.and_eq_true, decide_eq_true_eq]; exact ⟨by show (-2 ^ 63 : Int) ≤ _; omega, by show _ ≤ (2 ^ 63 - 1 : Int); omega⟩))
                      refine l_e rfl ?_
                      refine e_store rfl rfl Try.sizeOf40 rfl rfl rfl (by show 0 + 0 < (An.c an0).length; rw [An.c_len]; decide) ?_
                      refine cells_eq (ha1) ?_
                      refine l_nil ?_
                      refine k_then ?_
                      refine c_seq ?_
                      refine c_draw [(0, some true), (1, some true), (2, some true), (3, some true), (4, some true), (5, some true), (6, some true), (7, some true), (8, some false), (9, some false), (10, some true)] [] [(_, some true), (_, some true), (_, some true), (_, some true), (_, some true), (_, some true), (_, some true), (_, some true), (_, some false), (_, some false), (_, some true)] (fun w2 => RdV w2 vd (encI .i64) (nI D) ∧ (cellsE ba 45 a1.c).at w2) (blind_then (blind_then (blind_block (blind_then (blind_then (blind_block (blind_then blind_body))))))) rfl (by kernel_rfl) (by kernel_rfl) rfl rfl rfl (by kernel_rfl) St.drawn (fun _ h => ⟨h.rd 4 rfl, h.at 0 rfl⟩) ?_
                      refine d_q rfl (q_move rfl rfl) rfl rfl ?_
                      refine d_q rfl (q_move rfl rfl) rfl rfl ?_
                      refine d_q rfl (q_move rfl rfl) rfl rfl ?_
                      refine d_q rfl (q_move rfl rfl) rfl rfl ?_
                      refine d_q rfl (q_indexV c rfl Try.underlying22 Try.sizeOf3 rfl (fun _ h => h.1) rfl rfl (by omega)) rfl rfl ?_
                      refine d_q rfl (q_loadV c 0 rfl Try.isAgg3 rfl rfl (fun _ h => h.1) hdc rfl) rfl rfl ?_
                      refine d_q rfl (q_loadCAgg (a1.c) rfl Try.isAgg45 Try.sizeOf45 rfl (fun _ h => h.2) (List.take_of_length_le (by rw [List.drop_zero, An.c_len]; exact Nat.le_refl _)) (An.c_len _)) rfl rfl ?_
                      refine d_q rfl (q_build ((mkE c dn true a1 (by omega) (by omega)).c) rfl rfl (fun w => buildE c dn a1 (by omega) (by omega) w)) rfl rfl ?_
                      refine d_e rfl ?_
                      refine e_buildSliceV (sz := 22) [.tmp 106] rfl rfl rfl rfl rfl Try.underlying26 Try.sizeOf52 rfl Try.zeroValue52 (by simp [Value.cells, Ev.c_len]) ?_
                      intro b81
                      refine d_held (fun _ h => ⟨h.rd 5 rfl, h.at 1 rfl⟩) ?_
                      refine pull3 ?_
                      refine d_e rfl ?_
                      refine e_append rfl rfl rfl Try.underlying26 Try.underlying26 info52 rfl rfl rfl rfl rfl (fun _ h => lit_rd (h.at 1 rfl) Ev.enc [(mkE c dn true a1 (by omega) (by omega))] rfl rfl) (by simp only [byt52, List.length_append, List.length_cons, List.length_nil]; omega) (by simp only [List.length_append, List.length_cons, List.length_nil]; omega) ?_
                      intro v2
                      refine pull1 ?_
                      refine drop0 ?_
                      refine d_held (fun _ h => ⟨h.rd 4 rfl, h.at 1 rfl⟩) ?_
                      refine d_q rfl (q_assign rfl rfl) rfl rfl ?_
                      refine d_nil ?_
                      refine k_then ?_
                      refine c_seq ?_
                      refine c_region _ rfl ?_
                      refine l_q rfl (q_move rfl rfl) rfl rfl ?_
                      refine l_q rfl (q_move rfl rfl) rfl rfl ?_
                      refine l_q rfl (q_indexV c rfl Try.underlying22 Try.sizeOf3 rfl (fun _ h => h.rd 4 rfl) rfl rfl (by omega)) rfl rfl ?_
                      refine l_q rfl (q_loadV c 0 rfl Try.isAgg3 rfl rfl (fun _ h => h.rd 4 rfl) hdc rfl) rfl rfl ?_
                      refine l_q rfl (q_inc rfl rfl rfl (by omega)) rfl rfl ?_
                      refine l_q rfl (q_indexV c rfl Try.underlying22 Try.sizeOf3 rfl (fun _ h => h.rd 4 rfl) rfl rfl (by omega)) rfl rfl ?_
                      refine pull4 ?_
                      refine l_e rfl ?_
                      refine e_storeV c 0 (((dn + 1 : Nat) : Int)) rfl rfl Try.sizeOf3 rfl rfl rfl (List.getElem?_eq_getElem (by omega)) (by decide) rfl ?_
                      refine l_nil ?_
                      refine k_then ?_
                      refine c_exit ?_
                      refine k_then_exit ?_
                      refine k_block_exit ?_
                      refine k_then ?_
                      refine c_region _ rfl ?_
                      refine l_q rfl (q_move rfl rfl) rfl rfl ?_
                      refine l_q rfl (q_inc rfl rfl rfl (by omega)) rfl rfl ?_
                      refine l_q rfl (q_assign rfl rfl) rfl rfl ?_
                      refine l_nil ?_
                      refine pull2 ?_
                      refine drop0 ?_
                      refine pull2 ?_
                      refine drop0 ?_
                      refine pull2 ?_
                      refine pull2 ?_
                      exact k_round ((i + 1, v2, E ++ [mkE c dn true a1 (by omega) (by omega)], B, D.set c (dn + 1))) (by dsimp only; omega) ⟨by dsimp only; omega, by dsimp only; rw [List.length_append]; simp only [List.length_cons, List.length_nil]; omega, by dsimp only; omega, hBl, by dsimp only; rw [List.length_set]; exact hDl, hfit⟩ (Sub.cons rfl (Sub.cons rfl (Sub.cons rfl (Sub.cons rfl (Sub.cons rfl (Sub.cons rfl (Sub.nil))))))) (fun _ h => by dsimp only; rw [nI_set]; exact h)
                    · try simp only [decide_eq_true_eq, decide_eq_false_iff_not, Bool.not_eq_true', Bool.not_eq_false'] at h79
                      refine c_false rfl ?_
                      refine c_skip ?_
                      refine k_then ?_
                      refine c_seq ?_
                      refine c_draw [(0, some true), (1, some true), (2, some true), (3, some true), (4, some true), (5, some true), (6, some true), (7, some true), (8, some false), (9, some false), (10, some true)] [] [(_, some true), (_, some true), (_, some true), (_, some true), (_, some true), (_, some true), (_, some true), (_, some true), (_, some false), (_, some false), (_, some true)] (fun w2 => RdV w2 vd (encI .i64) (nI D) ∧ (cellsE ba 45 an0.c).at w2) (blind_then (blind_then (blind_block (blind_then (blind_then (blind_block (blind_then blind_body))))))) rfl (by kernel_rfl) (by kernel_rfl) rfl rfl rfl (by kernel_rfl) St.drawn (fun _ h => ⟨h.rd 4 rfl, h.at 0 rfl⟩) ?_
                      refine d_q rfl (q_move rfl rfl) rfl rfl ?_
                      refine d_q rfl (q_move rfl rfl) rfl rfl ?_
                      refine d_q rfl (q_move rfl rfl) rfl rfl ?_
                      refine d_q rfl (q_move rfl rfl) rfl rfl ?_
                      refine d_q rfl (q_indexV c rfl Try.underlying22 Try.sizeOf3 rfl (fun _ h => h.1) rfl rfl (by omega)) rfl rfl ?_
                      refine d_q rfl (q_loadV c 0 rfl Try.isAgg3 rfl rfl (fun _ h => h.1) hdc rfl) rfl rfl ?_
                      refine d_q rfl (q_loadCAgg (an0.c) rfl Try.isAgg45 Try.sizeOf45 rfl (fun _ h => h.2) (List.take_of_length_le (by rw [List.drop_zero, An.c_len]; exact Nat.le_refl _)) (An.c_len _)) rfl rfl ?_
                      refine d_q rfl (q_build ((mkE c dn true an0 (by omega) (by omega)).c) rfl rfl (fun w => buildE c dn an0 (by omega) (by omega) w)) rfl rfl ?_
                      refine d_e rfl ?_
                      refine e_buildSliceV (sz := 22) [.tmp 106] rfl rfl rfl rfl rfl Try.underlying26 Try.sizeOf52 rfl Try.zeroValue52 (by simp [Value.cells, Ev.c_len]) ?_
                      intro b83
                      refine d_held (fun _ h => ⟨h.rd 5 rfl, h.at 1 rfl⟩) ?_
                      refine pull3 ?_
                      refine d_e rfl ?_
                      refine e_append rfl rfl rfl Try.underlying26 Try.underlying26 info52 rfl rfl rfl rfl rfl (fun _ h => lit_rd (h.at 1 rfl) Ev.enc [(mkE c dn true an0 (by omega) (by omega))] rfl rfl) (by simp only [byt52, List.length_append, List.length_cons, List.length_nil]; omega) (by simp only [List.length_append, List.length_cons, List.length_nil]; omega) ?_
                      intro v2
                      refine pull1 ?_
                      refine drop0 ?_
                      refine d_held (fun _ h => ⟨h.rd 4 rfl, h.at 1 rfl⟩) ?_
                      refine d_q rfl (q_assign rfl rfl) rfl rfl ?_
                      refine d_nil ?_
                      refine k_then ?_
                      refine c_seq ?_
                      refine c_region _ rfl ?_
                      refine l_q rfl (q_move rfl rfl) rfl rfl ?_
                      refine l_q rfl (q_move rfl rfl) rfl rfl ?_
                      refine l_q rfl (q_indexV c rfl Try.underlying22 Try.sizeOf3 rfl (fun _ h => h.rd 4 rfl) rfl rfl (by omega)) rfl rfl ?_
                      refine l_q rfl (q_loadV c 0 rfl Try.isAgg3 rfl rfl (fun _ h => h.rd 4 rfl) hdc rfl) rfl rfl ?_
                      refine l_q rfl (q_inc rfl rfl rfl (by omega)) rfl rfl ?_
                      refine l_q rfl (q_indexV c rfl Try.underlying22 Try.sizeOf3 rfl (fun _ h => h.rd 4 rfl) rfl rfl (by omega)) rfl rfl ?_
                      refine pull4 ?_
                      refine l_e rfl ?_
                      refine e_storeV c 0 (((dn + 1 : Nat) : Int)) rfl rfl Try.sizeOf3 rfl rfl rfl (List.getElem?_eq_getElem (by omega)) (by decide) rfl ?_
                      refine l_nil ?_
                      refine k_then ?_
                      refine c_exit ?_
                      refine k_then_exit ?_
                      refine k_block_exit ?_
                      refine k_then ?_
                      refine c_region _ rfl ?_
                      refine l_q rfl (q_move rfl rfl) rfl rfl ?_
                      refine l_q rfl (q_inc rfl rfl rfl (by omega)) rfl rfl ?_
                      refine l_q rfl (q_assign rfl rfl) rfl rfl ?_
                      refine l_nil ?_
                      refine pull2 ?_
                      refine drop0 ?_
                      refine pull2 ?_
                      refine drop0 ?_
                      refine pull2 ?_
                      refine pull2 ?_
                      exact k_round ((i + 1, v2, E ++ [mkE c dn true an0 (by omega) (by omega)], B, D.set c (dn + 1))) (by dsimp only; omega) ⟨by dsimp only; omega, by dsimp only; rw [List.length_append]; simp only [List.length_cons, List.length_nil]; omega, by dsimp only; omega, hBl, by dsimp only; rw [List.length_set]; exact hDl, hfit⟩ (Sub.cons rfl (Sub.cons rfl (Sub.cons rfl (Sub.cons rfl (Sub.cons rfl (Sub.cons rfl (Sub.nil))))))) (fun _ h => by dsimp only; rw [nI_set]; exact h)
              · try simp only [decide_eq_true_eq, decide_eq_false_iff_not, Bool.not_eq_true', Bool.not_eq_false'] at h60
                refine l_not rfl rfl rfl ?_
                refine l_not rfl rfl rfl ?_
                refine l_not rfl rfl rfl ?_
                refine l_q rfl (q_pick_f rfl rfl rfl) rfl rfl ?_
                refine l_q rfl (q_assign rfl rfl) rfl rfl ?_
                refine l_nil ?_
                refine k_then ?_
                refine c_false rfl ?_
                refine c_seq ?_
                refine c_region _ rfl ?_
                refine l_q rfl (q_fieldAddr rfl Try.underlying37 rfl Try.sizeOf3 rfl rfl) rfl rfl ?_
                refine l_q rfl (q_loadC rfl Try.isAgg3 rfl (fun _ h => h.at 1 rfl) rfl) rfl rfl ?_
                refine l_q rfl (q_neq rfl rfl rfl) rfl rfl ?_
                refine l_q rfl (q_move rfl rfl) rfl rfl ?_
                refine Pre.caseB 88 rfl (fun h84 => ?_) (fun h84 => ?_)
                · try simp only [decide_eq_true_eq, decide_eq_false_iff_not, Bool.not_eq_true', Bool.not_eq_false'] at h84
                  refine l_q rfl (q_move rfl rfl) rfl rfl ?_
                  refine l_q rfl (q_rem_nn rfl rfl rfl (by omega) (by omega)) rfl rfl ?_
                  refine l_q rfl (q_eql rfl rfl rfl) rfl rfl ?_
                  refine l_q rfl (q_pick_t rfl rfl rfl) rfl rfl ?_
                  refine l_q rfl (q_assign rfl rfl) rfl rfl ?_
                  refine l_nil ?_
                  refine k_then ?_
                  refine Pre.caseB 84 rfl (fun h85 => ?_) (fun h85 => ?_)
                  · try simp only [decide_eq_true_eq, decide_eq_false_iff_not, Bool.not_eq_true', Bool.not_eq_false'] at h85
                    refine c_true rfl ?_
                    refine c_region _ rfl ?_
                    refine l_q rfl (q_fieldAddr rfl Try.underlying45 rfl Try.sizeOf40 rfl rfl) rfl rfl ?_
                    obtain ⟨a1, ha1⟩ := an_code an0 3 (by first | decide | exact wf_n8 (k := kk / 8) (by omega) | (simp only [Lit.wf, Bool.and_eq_true, decide_eq_true_eq]; exact ⟨by show (-2 ^ 63 : Int) ≤ _; omega, by show _ ≤ (2 ^ 63 - 1 : Int); omega⟩))
                    refine l_e rfl ?_
                    refine e_store rfl rfl Try.sizeOf40 rfl rfl rfl (by show 0 + 0 < (An.c an0).length; rw [An.c_len]; decide) ?_
                    refine cells_eq (ha1) ?_
                    refine l_nil ?_
                    refine k_block ?_
                    refine k_then ?_
                    refine c_seq ?_
                    refine c_seq ?_
                    refine c_region _ rfl ?_
                    refine l_q rfl (q_move rfl rfl) rfl rfl ?_
                    refine l_q rfl (q_eql rfl rfl rfl) rfl rfl ?_
                    refine l_nil ?_
                    refine k_then ?_
                    refine Pre.caseB 95 rfl (fun h86 => ?_) (fun h86 => ?_)
                    · try simp only [decide_eq_true_eq, decide_eq_false_iff_not, Bool.not_eq_true', Bool.not_eq_false'] at h86
                      refine c_true rfl ?_
                      refine c_region _ rfl ?_
                      refine l_q rfl (q_move rfl rfl) rfl rfl ?_
                      refine l_q rfl (q_quo_nn rfl rfl rfl (by omega) (by omega) (by omega)) rfl rfl ?_
                      refine l_q rfl (q_fieldAddr rfl Try.underlying45 rfl Try.sizeOf40 rfl rfl) rfl rfl ?_
                      obtain ⟨a2, ha2⟩ := an_code a1 ((kk : Int) / 8) (by first | decide | exact wf_n8 (k := kk / 8) (by omega) | (simp only [Lit.wf, Bool.and_eq_true, decide_eq_true_eq]; exact ⟨by show (-2 ^ 63 : Int) ≤ _; omega, by show _ ≤ (2 ^ 63 - 1 : Int); omega⟩))
                      refine l_e rfl ?_
                      refine e_store rfl rfl Try.sizeOf40 rfl rfl rfl (by show 0 + 0 < (An.c a1).length; rw [An.c_len]; decide) ?_
                      refine cells_eq (ha2) ?_
                      refine l_nil ?_
                      refine k_then ?_
                      refine c_seq ?_
                      refine c_draw [(0, some true), (1, some true), (2, some true), (3, some true), (4, some true), (5, some true), (6, some true), (7, some true), (8, some false), (9, some false), (10, some true)] [] [(_, some true), (_, some true), (_, some true), (_, some true), (_, some true), (_, some true), (_, some true), (_, some true), (_, some false), (_, some false), (_, some true)] (fun w2 => RdV w2 vd (encI .i64) (nI D) ∧ (cellsE ba 45 a2.c).at w2) (blind_then (blind_then (blind_block (blind_then (blind_then (blind_block (blind_then blind_body))))))) rfl (by kernel_rfl) (by kernel_rfl) rfl rfl rfl (by kernel_rfl) St.drawn (fun _ h => ⟨h.rd 4 rfl, h.at 0 rfl⟩) ?_
                      refine d_q rfl (q_move rfl rfl) rfl rfl ?_
                      refine d_q rfl (q_move rfl rfl) rfl rfl ?_
                      refine d_q rfl (q_move rfl rfl) rfl rfl ?_
                      refine d_q rfl (q_move rfl rfl) rfl rfl ?_
                      refine d_q rfl (q_indexV c rfl Try.underlying22 Try.sizeOf3 rfl (fun _ h => h.1) rfl rfl (by omega)) rfl rfl ?_
                      refine d_q rfl (q_loadV c 0 rfl Try.isAgg3 rfl rfl (fun _ h => h.1) hdc rfl) rfl rfl ?_
                      refine d_q rfl (q_loadCAgg (a2.c) rfl Try.isAgg45 Try.sizeOf45 rfl (fun _ h => h.2) (List.take_of_length_le (by rw [List.drop_zero, An.c_len]; exact Nat.le_refl _)) (An.c_len _)) rfl rfl ?_
                      refine d_q rfl (q_build ((mkE c dn true a2 (by omega) (by omega)).c) rfl rfl (fun w => buildE c dn a2 (by omega) (by omega) w)) rfl rfl ?_
                      refine d_e rfl ?_
                      refine e_buildSliceV (sz := 22) [.tmp 106] rfl rfl rfl rfl rfl Try.underlying26 Try.sizeOf52 rfl Try.zeroValue52 (by simp [Value.cells, Ev.c_len]) ?_
                      intro b88
                      refine d_held (fun _ h => ⟨h.rd 5 rfl, h.at 1 rfl⟩) ?_
                      refine pull3 ?_
                      refine d_e rfl ?_
                      refine e_append rfl rfl rfl Try.underlying26 Try.underlying26 info52 rfl rfl rfl rfl rfl (fun _ h => lit_rd (h.at 1 rfl) Ev.enc [(mkE c dn true a2 (by omega) (by omega))] rfl rfl) (by simp only [byt52, List.length_append, List.length_cons, List.length_nil]; omega) (by simp only [List.length_append, List.length_cons, List.length_nil]; omega) ?_
                      intro v2
                      refine pull1 ?_
                      refine drop0 ?_
                      refine d_held (fun _ h => ⟨h.rd 4 rfl, h.at 1 rfl⟩) ?_
                      refine d_q rfl (q_assign rfl rfl) rfl rfl ?_
                      refine d_nil ?_
                      refine k_then ?_
                      refine c_seq ?_
                      refine c_region _ rfl ?_
                      refine l_q rfl (q_move rfl rfl) rfl rfl ?_
                      refine l_q rfl (q_move rfl rfl) rfl rfl ?_
                      refine l_q rfl (q_indexV c rfl Try.underlying22 Try.sizeOf3 rfl (fun _ h => h.rd 4 rfl) rfl rfl (by omega)) rfl rfl ?_
                      refine l_q rfl (q_loadV c 0 rfl Try.isAgg3 rfl rfl (fun _ h => h.rd 4 rfl) hdc rfl) rfl rfl ?_
                      refine l_q rfl (q_inc rfl rfl rfl (by omega)) rfl rfl ?_
                      refine l_q rfl (q_indexV c rfl Try.underlying22 Try.sizeOf3 rfl (fun _ h => h.rd 4 rfl) rfl rfl (by omega)) rfl rfl ?_
                      refine pull4 ?_
                      refine l_e rfl ?_
                      refine e_storeV c 0 (((dn + 1 : Nat) : Int)) rfl rfl Try.sizeOf3 rfl rfl rfl (List.getElem?_eq_getElem (by omega)) (by decide) rfl ?_
                      refine l_nil ?_
                      refine k_then ?_
                      refine c_exit ?_
                      refine k_then_exit ?_
                      refine k_block_exit ?_
                      refine k_then ?_
                      refine c_region _ rfl ?_
                      refine l_q rfl (q_move rfl rfl) rfl rfl ?_
                      refine l_q rfl (q_inc rfl rfl rfl (by omega)) rfl rfl ?_
                      refine l_q rfl (q_assign rfl rfl) rfl rfl ?_
                      refine l_nil ?_
                      refine pull2 ?_
                      refine drop0 ?_
                      refine pull2 ?_
                      refine drop0 ?_
                      refine pull2 ?_
                      refine pull2 ?_
                      exact k_round ((i + 1, v2, E ++ [mkE c dn true a2 (by omega) (by omega)], B, D.set c (dn + 1))) (by dsimp only; omega) ⟨by dsimp only; omega, by dsimp only; rw [List.length_append]; simp only [List.length_cons, List.length_nil]; omega, by dsimp only; omega, hBl, by dsimp only; rw [List.length_set]; exact hDl, hfit⟩ (Sub.cons rfl (Sub.cons rfl (Sub.cons rfl (Sub.cons rfl (Sub.cons rfl (Sub.cons rfl (Sub.nil))))))) (fun _ h => by dsimp only; rw [nI_set]; exact h)
                    · try simp only [decide_eq_true_eq, decide_eq_false_iff_not, Bool.not_eq_true', Bool.not_eq_false'] at h86
                      refine c_false rfl ?_
                      refine c_skip ?_
                      refine k_then ?_
                      refine c_seq ?_
                      refine c_draw [(0, some true), (1, some true), (2, some true), (3, some true), (4, some true), (5, some true), (6, some true), (7, some true), (8, some false), (9, some false), (10, some true)] [] [(_, some true), (_, some true), (_, some true), (_, some true), (_, some true), (_, some true), (_, some true), (_, some true), (_, some false), (_, some false), (_, some true)] (fun w2 => RdV w2 vd (encI .i64) (nI D) ∧ (cellsE ba 45 a1.c).at w2) (blind_then (blind_then (blind_block (blind_then (blind_then (blind_block (blind_then blind_body))))))) rfl (by kernel_rfl) (by kernel_rfl) rfl rfl rfl (by kernel_rfl) St.drawn (fun _ h => ⟨h.rd 4 rfl, h.at 0 rfl⟩) ?_
                      refine d_q rfl (q_move rfl rfl) rfl rfl ?_
                      refine d_q rfl (q_move rfl rfl) rfl rfl ?_
                      refine d_q rfl (q_move rfl rfl) rfl rfl ?_
                      refine d_q rfl (q_move rfl rfl) rfl rfl ?_
                      refine d_q rfl (q_indexV c rfl Try.underlying22 Try.sizeOf3 rfl (fun _ h => h.1) rfl rfl (by omega)) rfl rfl ?_
                      refine d_q rfl (q_loadV c 0 rfl Try.isAgg3 rfl rfl (fun _ h => h.1) hdc rfl) rfl rfl ?_
                      refine d_q rfl (q_loadCAgg (a1.c) rfl Try.isAgg45 Try.sizeOf45 rfl (fun _ h => h.2) (List.take_of_length_le (by rw [List.drop_zero, An.c_len]; exact Nat.le_refl _)) (An.c_len _)) rfl rfl ?_
                      refine d_q rfl (q_build ((mkE c dn true a1 (by omega) (by omega)).c) rfl rfl (fun w => buildE c dn a1 (by omega) (by omega) w)) rfl rfl ?_
                      refine d_e rfl ?_
                      refine e_buildSliceV (sz := 22) [.tmp 106] rfl rfl rfl rfl rfl Try.underlying26 Try.sizeOf52 rfl Try.zeroValue52 (by simp [Value.cells, Ev.c_len]) ?_
                      intro b90
                      refine d_held (fun _ h => ⟨h.rd 5 rfl, h.at 1 rfl⟩) ?_
                      refine pull3 ?_
                      refine d_e rfl ?_
                      refine e_append rfl rfl rfl Try.underlying26 Try.underlying26 info52 rfl rfl rfl rfl rfl (fun _ h => lit_rd (h.at 1 rfl) Ev.enc [(mkE c dn true a1 (by omega) (by omega))] rfl rfl) (by simp only [byt52, List.length_append, List.length_cons, List.length_nil]; omega) (by simp only [List.length_append, List.length_cons, List.length_nil]; omega) ?_
                      intro v2
                      refine pull1 ?_
                      refine drop0 ?_
                      refine d_held (fun _ h => ⟨h.rd 4 rfl, h.at 1 rfl⟩) ?_
                      refine d_q rfl (q_assign rfl rfl) rfl rfl ?_
                      refine d_nil ?_
                      refine k_then ?_
                      refine c_seq ?_
                      refine c_region _ rfl ?_
                      refine l_q rfl (q_move rfl rfl) rfl rfl ?_
                      refine l_q rfl (q_move rfl rfl) rfl rfl ?_
                      refine l_q rfl (q_indexV c rfl Try.underlying22 Try.sizeOf3 rfl (fun _ h => h.rd 4 rfl) rfl rfl (by omega)) rfl rfl ?_
                      refine l_q rfl (q_loadV c 0 rfl Try.isAgg3 rfl rfl (fun _ h => h.rd 4 rfl) hdc rfl) rfl rfl ?_
                      refine l_q rfl (q_inc rfl rfl rfl (by omega)) rfl rfl ?_
                      refine l_q rfl (q_indexV c rfl Try.underlying22 Try.sizeOf3 rfl (fun _ h => h.rd 4 rfl) rfl rfl (by omega)) rfl rfl ?_
                      refine pull4 ?_
                      refine l_e rfl ?_
                      refine e_storeV c 0 (((dn + 1 : Nat) : Int)) rfl rfl Try.sizeOf3 rfl rfl rfl (List.getElem?_eq_getElem (by omega)) (by decide) rfl ?_
                      refine l_nil ?_
                      refine k_then ?_
                      refine c_exit ?_
                      refine k_then_exit ?_
                      refine k_block_exit ?_
                      refine k_then ?_
                      refine c_region _ rfl ?_
                      refine l_q rfl (q_move rfl rfl) rfl rfl ?_
                      refine l_q rfl (q_inc rfl rfl rfl (by omega)) rfl rfl ?_
                      refine l_q rfl (q_assign rfl rfl) rfl rfl ?_
                      refine l_nil ?_
                      refine pull2 ?_
                      refine drop0 ?_
                      refine pull2 ?_
                      refine drop0 ?_
                      refine pull2 ?_
                      refine pull2 ?_
                      exact k_round ((i + 1, v2, E ++ [mkE c dn true a1 (by omega) (by omega)], B, D.set c (dn + 1))) (by dsimp only; omega) ⟨by dsimp only; omega, by dsimp only; rw [List.length_append]; simp only [List.length_cons, List.length_nil]; omega, by dsimp only; omega, hBl, by dsimp only; rw [List.length_set]; exact hDl, hfit⟩ (Sub.cons rfl (Sub.cons rfl (Sub.cons rfl (Sub.cons rfl (Sub.cons rfl (Sub.cons rfl (Sub.nil))))))) (fun _ h => by dsimp only; rw [nI_set]; exact h)
                  · try simp only [decide_eq_true_eq, decide_eq_false_iff_not, Bool.not_eq_true', Bool.not_eq_false'] at h85
                    refine c_false rfl ?_
                    refine c_skip ?_
                    refine k_block ?_
                    refine k_then ?_
                    refine c_seq ?_
                    refine c_seq ?_
                    refine c_region _ rfl ?_
                    refine l_q rfl (q_move rfl rfl) rfl rfl ?_
                    refine l_q rfl (q_eql rfl rfl rfl) rfl rfl ?_
                    refine l_nil ?_
                    refine k_then ?_
                    refine Pre.caseB 95 rfl (fun h91 => ?_) (fun h91 => ?_)
                    · try simp only [decide_eq_true_eq, decide_eq_false_iff_not, Bool.not_eq_true', Bool.not_eq_false'] at h91
                      refine c_true rfl ?_
                      refine c_region _ rfl ?_
                      refine l_q rfl (q_move rfl rfl) rfl rfl ?_
                      refine l_q rfl (q_quo_nn rfl rfl rfl (by omega) (by omega) (by omega)) rfl rfl ?_
                      refine l_q rfl (q_fieldAddr rfl Try.underlying45 rfl Try.sizeOf40 rfl rfl) rfl rfl ?_
                      obtain ⟨a1, ha1⟩ := an_code an0 ((kk : Int) / 8) (by first | decide | exact wf_n8 (k := kk / 8) (by omega) | (simp only [Lit.wf, Bool.and_eq_true, decide_eq_true_eq]; exact ⟨by show (-2 ^ 63 : Int) ≤ _; omega, by show _ ≤ (2 ^ 63 - 1 : Int); omega⟩))
                      refine l_e rfl ?_
                      refine e_store rfl rfl Try.sizeOf40 rfl rfl rfl (by show 0 + 0 < (An.c an0).length; rw [An.c_len]; decide) ?_
                      refine cells_eq (ha1) ?_
                      refine l_nil ?_
                      refine k_then ?_
                      refine c_seq ?_
                      refine c_draw [(0, some true), (1, some true), (2, some true), (3, some true), (4, some true), (5, some true), (6, some true), (7, some true), (8, some false), (9, some false), (10, some true)] [] [(_, some true), (_, some true), (_, some true), (_, some true), (_, some true), (_, some true), (_, some true), (_, some true), (_, some false), (_, some false), (_, some true)] (fun w2 => RdV w2 vd (encI .i64) (nI D) ∧ (cellsE ba 45 a1.c).at w2) (blind_then (blind_then (blind_block (blind_then (blind_then (blind_block (blind_then blind_body))))))) rfl (by kernel_rfl) (by kernel_rfl) rfl rfl rfl (by kernel_rfl) St.drawn (fun _ h => ⟨h.rd 4 rfl, h.at 0 rfl⟩) ?_
                      refine d_q rfl (q_move rfl rfl) rfl rfl ?_
                      refine d_q rfl (q_move rfl rfl) rfl rfl ?_
                      refine d_q rfl (q_move rfl rfl) rfl rfl ?_
                      refine d_q rfl (q_move rfl rfl) rfl rfl ?_
                      refine d_q rfl (q_indexV c rfl Try.underlying22 Try.sizeOf3 rfl (fun _ h => h.1) rfl rfl (by omega)) rfl rfl ?_
                      refine d_q rfl (q_loadV c 0 rfl Try.isAgg3 rfl rfl (fun _ h => h.1) hdc rfl) rfl rfl ?_
                      refine d_q rfl (q_loadCAgg (a1.c) rfl Try.isAgg45 Try.sizeOf45 rfl (fun _ h => h.2) (List.take_of_length_le (by rw [List.drop_zero, An.c_len]; exact Nat.le_refl _)) (An.c_len _)) rfl rfl ?_
                      refine d_q rfl (q_build ((mkE c dn true a1 (by omega) (by omega)).c) rfl rfl (fun w => buildE c dn a1 (by omega) (by omega) w)) rfl rfl ?_
                      refine d_e rfl ?_
                      refine e_buildSliceV (sz := 22) [.tmp 106] rfl rfl rfl rfl rfl Try.underlying26 Try.sizeOf52 rfl Try.zeroValue52 (by simp [Value.cells, Ev.c_len]) ?_
                      intro b93
                      refine d_held (fun _ h => ⟨h.rd 5 rfl, h.at 1 rfl⟩) ?_
                      refine pull3 ?_
                      refine d_e rfl ?_
                      refine e_append rfl rfl rfl Try.underlying26 Try.underlying26 info52 rfl rfl rfl rfl rfl (fun _ h => lit_rd (h.at 1 rfl) Ev.enc [(mkE c dn true a1 (by omega) (by omega))] rfl rfl) (by simp only [byt52, List.length_append, List.length_cons, List.length_nil]; omega) (by simp only [List.length_append, List.length_cons, List.length_nil]; omega) ?_
                      intro v2
                      refine pull1 ?_
                      refine drop0 ?_
                      refine d_held (fun _ h => ⟨h.rd 4 rfl, h.at 1 rfl⟩) ?_
                      refine d_q rfl (q_assign rfl rfl) rfl rfl ?_
                      refine d_nil ?_
                      refine k_then ?_
                      refine c_seq ?_
                      refine c_region _ rfl ?_
                      refine l_q rfl (q_move rfl rfl) rfl rfl ?_
                      refine l_q rfl (q_move rfl rfl) rfl rfl ?_
                      refine l_q rfl (q_indexV c rfl Try.underlying22 Try.sizeOf3 rfl (fun _ h => h.rd 4 rfl) rfl rfl (by omega)) rfl rfl ?_
                      refine l_q rfl (q_loadV c 0 rfl Try.isAgg3 rfl rfl (fun _ h => h.rd 4 rfl) hdc rfl) rfl rfl ?_
                      refine l_q rfl (q_inc rfl rfl rfl (by omega)) rfl rfl ?_
                      refine l_q rfl (q_indexV c rfl Try.underlying22 Try.sizeOf3 rfl (fun _ h => h.rd 4 rfl) rfl rfl (by omega)) rfl rfl ?_
                      refine pull4 ?_
                      refine l_e rfl ?_
                      refine e_storeV c 0 (((dn + 1 : Nat) : Int)) rfl rfl Try.sizeOf3 rfl rfl rfl (List.getElem?_eq_getElem (by omega)) (by decide) rfl ?_
                      refine l_nil ?_
                      refine k_then ?_
                      refine c_exit ?_
                      refine k_then_exit ?_
                      refine k_block_exit ?_
                      refine k_then ?_
                      refine c_region _ rfl ?_
                      refine l_q rfl (q_move rfl rfl) rfl rfl ?_
                      refine l_q rfl (q_inc rfl rfl rfl (by omega)) rfl rfl ?_
                      refine l_q rfl (q_assign rfl rfl) rfl rfl ?_
                      refine l_nil ?_
                      refine pull2 ?_
                      refine drop0 ?_
                      refine pull2 ?_
                      refine drop0 ?_
                      refine pull2 ?_
                      refine pull2 ?_
                      exact k_round ((i + 1, v2, E ++ [mkE c dn true a1 (by omega) (by omega)], B, D.set c (dn + 1))) (by dsimp only; omega) ⟨by dsimp only; omega, by dsimp only; rw [List.length_append]; simp only [List.length_cons, List.length_nil]; omega, by dsimp only; omega, hBl, by dsimp only; rw [List.length_set]; exact hDl, hfit⟩ (Sub.cons rfl (Sub.cons rfl (Sub.cons rfl (Sub.cons rfl (Sub.cons rfl (Sub.cons rfl (Sub.nil))))))) (fun _ h => by dsimp only; rw [nI_set]; exact h)
                    · try simp only [decide_eq_true_eq, decide_eq_false_iff_not, Bool.not_eq_true', Bool.not_eq_false'] at h91
                      refine c_false rfl ?_
                      refine c_skip ?_
                      refine k_then ?_
                      refine c_seq ?_
                      refine c_draw [(0, some true), (1, some true), (2, some true), (3, some true), (4, some true), (5, some true), (6, some true), (7, some true), (8, some false), (9, some false), (10, some true)] [] [(_, some true), (_, some true), (_, some true), (_, some true), (_, some true), (_, some true), (_, some true), (_, some true), (_, some false), (_, some false), (_, some true)] (fun w2 => RdV w2 vd (encI .i64) (nI D) ∧ (cellsE ba 45 an0.c).at w2) (blind_then (blind_then (blind_block (blind_then (blind_then (blind_block (blind_then blind_body))))))) rfl (by kernel_rfl) (by kernel_rfl) rfl rfl rfl (by kernel_rfl) St.drawn (fun _ h => ⟨h.rd 4 rfl, h.at 0 rfl⟩) ?_
                      refine d_q rfl (q_move rfl rfl) rfl rfl ?_
                      refine d_q rfl (q_move rfl rfl) rfl rfl ?_
                      refine d_q rfl (q_move rfl rfl) rfl rfl ?_
                      refine d_q rfl (q_move rfl rfl) rfl rfl ?_
                      refine d_q rfl (q_indexV c rfl Try.underlying22 Try.sizeOf3 rfl (fun _ h => h.1) rfl rfl (by omega)) rfl rfl ?_
                      refine d_q rfl (q_loadV c 0 rfl Try.isAgg3 rfl rfl (fun _ h => h.1) hdc rfl) rfl rfl ?_
                      refine d_q rfl (q_loadCAgg (an0.c) rfl Try.isAgg45 Try.sizeOf45 rfl (fun _ h => h.2) (List.take_of_length_le (by rw [List.drop_zero, An.c_len]; exact Nat.le_refl _)) (An.c_len _)) rfl rfl ?_
                      refine d_q rfl (q_build ((mkE c dn true an0 (by omega) (by omega)).c) rfl rfl (fun w => buildE c dn an0 (by omega) (by omega) w)) rfl rfl ?_
                      refine d_e rfl ?_
                      refine e_buildSliceV (sz := 22) [.tmp 106] rfl rfl rfl rfl rfl Try.underlying26 Try.sizeOf52 rfl Try.zeroValue52 (by simp [Value.cells, Ev.c_len]) ?_
                      intro b95
                      refine d_held (fun _ h => ⟨h.rd 5 rfl, h.at 1 rfl⟩) ?_
                      refine pull3 ?_
                      refine d_e rfl ?_
                      refine e_append rfl rfl rfl Try.underlying26 Try.underlying26 info52 rfl rfl rfl rfl rfl (fun _ h => lit_rd (h.at 1 rfl) Ev.enc [(mkE c dn true an0 (by omega) (by omega))] rfl rfl) (by simp only [byt52, List.length_append, List.length_cons, List.length_nil]; omega) (by simp only [List.length_append, List.length_cons, List.length_nil]; omega) ?_
                      intro v2
                      refine pull1 ?_
                      refine drop0 ?_
                      refine d_held (fun _ h => ⟨h.rd 4 rfl, h.at 1 rfl⟩) ?_
                      refine d_q rfl (q_assign rfl rfl) rfl rfl ?_
                      refine d_nil ?_
                      refine k_then ?_
                      refine c_seq ?_
                      refine c_region _ rfl ?_
                      refine l_q rfl (q_move rfl rfl) rfl rfl ?_
                      refine l_q rfl (q_move rfl rfl) rfl rfl ?_
                      refine l_q rfl (q_indexV c rfl Try.underlying22 Try.sizeOf3 rfl (fun _ h => h.rd 4 rfl) rfl rfl (by omega)) rfl rfl ?_
                      refine l_q rfl (q_loadV c 0 rfl Try.isAgg3 rfl rfl (fun _ h => h.rd 4 rfl) hdc rfl) rfl rfl ?_
                      refine l_q rfl (q_inc rfl rfl rfl (by omega)) rfl rfl ?_
                      refine l_q rfl (q_indexV c rfl Try.underlying22 Try.sizeOf3 rfl (fun _ h => h.rd 4 rfl) rfl rfl (by omega)) rfl rfl ?_
                      refine pull4 ?_
                      refine l_e rfl ?_
                      refine e_storeV c 0 (((dn + 1 : Nat) : Int)) rfl rfl Try.sizeOf3 rfl rfl rfl (List.getElem?_eq_getElem (by omega)) (by decide) rfl ?_
                      refine l_nil ?_
                      refine k_then ?_
                      refine c_exit ?_
                      refine k_then_exit ?_
                      refine k_block_exit ?_
                      refine k_then ?_
                      refine c_region _ rfl ?_
                      refine l_q rfl (q_move rfl rfl) rfl rfl ?_
                      refine l_q rfl (q_inc rfl rfl rfl (by omega)) rfl rfl ?_
                      refine l_q rfl (q_assign rfl rfl) rfl rfl ?_
                      refine l_nil ?_
                      refine pull2 ?_
                      refine drop0 ?_
                      refine pull2 ?_
                      refine drop0 ?_
                      refine pull2 ?_
                      refine pull2 ?_
                      exact k_round ((i + 1, v2, E ++ [mkE c dn true an0 (by omega) (by omega)], B, D.set c (dn + 1))) (by dsimp only; omega) ⟨by dsimp only; omega, by dsimp only; rw [List.length_append]; simp only [List.length_cons, List.length_nil]; omega, by dsimp only; omega, hBl, by dsimp only; rw [List.length_set]; exact hDl, hfit⟩ (Sub.cons rfl (Sub.cons rfl (Sub.cons rfl (Sub.cons rfl (Sub.cons rfl (Sub.cons rfl (Sub.nil))))))) (fun _ h => by dsimp only; rw [nI_set]; exact h)
                · try simp only [decide_eq_true_eq, decide_eq_false_iff_not, Bool.not_eq_true', Bool.not_eq_false'] at h84
                  refine l_not rfl rfl rfl ?_
                  refine l_not rfl rfl rfl ?_
                  refine l_not rfl rfl rfl ?_
                  refine l_q rfl (q_pick_f rfl rfl rfl) rfl rfl ?_
                  refine l_q rfl (q_assign rfl rfl) rfl rfl ?_
                  refine l_nil ?_
                  refine k_then ?_
                  refine c_false rfl ?_
                  refine c_skip ?_
                  refine k_block ?_
                  refine k_then ?_
                  refine c_seq ?_
                  refine c_seq ?_
                  refine c_region _ rfl ?_
                  refine l_q rfl (q_move rfl rfl) rfl rfl ?_
                  refine l_q rfl (q_eql rfl rfl rfl) rfl rfl ?_
                  refine l_nil ?_
                  refine k_then ?_
                  refine Pre.caseB 95 rfl (fun h96 => ?_) (fun h96 => ?_)
                  · try simp only [decide_eq_true_eq, decide_eq_false_iff_not, Bool.not_eq_true', Bool.not_eq_false'] at h96
                    refine c_true rfl ?_
                    refine c_region _ rfl ?_
                    refine l_q rfl (q_move rfl rfl) rfl rfl ?_
                    refine l_q rfl (q_quo_nn rfl rfl rfl (by omega) (by omega) (by omega)) rfl rfl ?_
                    refine l_q rfl (q_fieldAddr rfl Try.underlying45 rfl Try.sizeOf40 rfl rfl) rfl rfl ?_
                    obtain ⟨a1, ha1⟩ := an_code an0 ((kk : Int) / 8) (by first | decide | exact wf_n8 (k := kk / 8) (by omega) | (simp only [Lit.wf, Bool.and_eq_true, decide_eq_true_eq]; exact ⟨by show (-2 ^ 63 : Int) ≤ _; omega, by show _ ≤ (2 ^ 63 - 1 : Int); omega⟩))
                    refine l_e rfl ?_
                    refine e_store rfl rfl Try.sizeOf40 rfl rfl rfl (by show 0 + 0 < (An.c an0).length; rw [An.c_len]; decide) ?_
                    refine cells_eq (ha1) ?_
                    refine l_nil ?_
                    refine k_then ?_
                    refine c_seq ?_
                    refine c_draw [(0, some true), (1, some true), (2, some true), (3, some true), (4, some true), (5, some true), (6, some true), (7, some true), (8, some false), (9, some false), (10, some true)] [] [(_, some true), (_, some true), (_, some true), (_, some true), (_, some true), (_, some true), (_, some true), (_, some true), (_, some false), (_, some false), (_, some true)] (fun w2 => RdV w2 vd (encI .i64) (nI D) ∧ (cellsE ba 45 a1.c).at w2) (blind_then (blind_then (blind_block (blind_then (blind_then (blind_block (blind_then blind_body))))))) rfl (by kernel_rfl) (by kernel_rfl) rfl rfl rfl (by kernel_rfl) St.drawn (fun _ h => ⟨h.rd 4 rfl, h.at 0 rfl⟩) ?_
                    refine d_q rfl (q_move rfl rfl) rfl rfl ?_
                    refine d_q rfl (q_move rfl rfl) rfl rfl ?_
                    refine d_q rfl (q_move rfl rfl) rfl rfl ?_
                    refine d_q rfl (q_move rfl rfl) rfl rfl ?_
                    refine d_q rfl (q_indexV c rfl Try.underlying22 Try.sizeOf3 rfl (fun _ h => h.1) rfl rfl (by omega)) rfl rfl ?_
                    refine d_q rfl (q_loadV c 0 rfl Try.isAgg3 rfl rfl (fun _ h => h.1) hdc rfl) rfl rfl ?_
                    refine d_q rfl (q_loadCAgg (a1.c) rfl Try.isAgg45 Try.sizeOf45 rfl (fun _ h => h.2) (List.take_of_length_le (by rw [List.drop_zero, An.c_len]; exact Nat.le_refl _)) (An.c_len _)) rfl rfl ?_
                    refine d_q rfl (q_build ((mkE c dn true a1 (by omega) (by omega)).c) rfl rfl (fun w => buildE c dn a1 (by omega) (by omega) w)) rfl rfl ?_
                    refine d_e rfl ?_
                    refine e_buildSliceV (sz := 22) [.tmp 106] rfl rfl rfl rfl rfl Try.underlying26 Try.sizeOf52 rfl Try.zeroValue52 (by simp [Value.cells, Ev.c_len]) ?_
                    intro b98
                    refine d_held (fun _ h => ⟨h.rd 5 rfl, h.at 1 rfl⟩) ?_
                    refine pull3 ?_
                    refine d_e rfl ?_
                    refine e_append rfl rfl rfl Try.underlying26 Try.underlying26 info52 rfl rfl rfl rfl rfl (fun _ h => lit_rd (h.at 1 rfl) Ev.enc [(mkE c dn true a1 (by omega) (by omega))] rfl rfl) (by simp only [byt52, List.length_append, List.length_cons, List.length_nil]; omega) (by simp only [List.length_append, List.length_cons, List.length_nil]; omega) ?_
                    intro v2
                    refine pull1 ?_
                    refine drop0 ?_
                    refine d_held (fun _ h => ⟨h.rd 4 rfl, h.at 1 rfl⟩) ?_
                    refine d_q rfl (q_assign rfl rfl) rfl rfl ?_
                    refine d_nil ?_
                    refine k_then ?_
                    refine c_seq ?_
                    refine c_region _ rfl ?_
                    refine l_q rfl (q_move rfl rfl) rfl rfl ?_
                    refine l_q rfl (q_move rfl rfl) rfl rfl ?_
                    refine l_q rfl (q_indexV c rfl Try.underlying22 Try.sizeOf3 rfl (fun _ h => h.rd 4 rfl) rfl rfl (by omega)) rfl rfl ?_
                    refine l_q rfl (q_loadV c 0 rfl Try.isAgg3 rfl rfl (fun _ h => h.rd 4 rfl) hdc rfl) rfl rfl ?_
                    refine l_q rfl (q_inc rfl rfl rfl (by omega)) rfl rfl ?_
                    refine l_q rfl (q_indexV c rfl Try.underlying22 Try.sizeOf3 rfl (fun _ h => h.rd 4 rfl) rfl rfl (by omega)) rfl rfl ?_
                    refine pull4 ?_
                    refine l_e rfl ?_
                    refine e_storeV c 0 (((dn + 1 : Nat) : Int)) rfl rfl Try.sizeOf3 rfl rfl rfl (List.getElem?_eq_getElem (by omega)) (by decide) rfl ?_
                    refine l_nil ?_
                    refine k_then ?_
                    refine c_exit ?_
                    refine k_then_exit ?_
                    refine k_block_exit ?_
                    refine k_then ?_
                    refine c_region _ rfl ?_
                    refine l_q rfl (q_move rfl rfl) rfl rfl ?_
                    refine l_q rfl (q_inc rfl rfl rfl (by omega)) rfl rfl ?_
                    refine l_q rfl (q_assign rfl rfl) rfl rfl ?_
                    refine l_nil ?_
                    refine pull2 ?_
                    refine drop0 ?_
                    refine pull2 ?_
                    refine drop0 ?_
                    refine pull2 ?_
                    refine pull2 ?_
                    exact k_round ((i + 1, v2, E ++ [mkE c dn true a1 (by omega) (by omega)], B, D.set c (dn + 1))) (by dsimp only; omega) ⟨by dsimp only; omega, by dsimp only; rw [List.length_append]; simp only [List.length_cons, List.length_nil]; omega, by dsimp only; omega, hBl, by dsimp only; rw [List.length_set]; exact hDl, hfit⟩ (Sub.cons rfl (Sub.cons rfl (Sub.cons rfl (Sub.cons rfl (Sub.cons rfl (Sub.cons rfl (Sub.nil))))))) (fun _ h => by dsimp only; rw [nI_set]; exact h)
                  · try simp only [decide_eq_true_eq, decide_eq_false_iff_not, Bool.not_eq_true', Bool.not_eq_false'] at h96
                    refine c_false rfl ?_
                    refine c_skip ?_
                    refine k_then ?_
                    refine c_seq ?_
                    refine c_draw [(0, some true), (1, some true), (2, some true), (3, some true), (4, some true), (5, some true), (6, some true), (7, some true), (8, some false), (9, some false), (10, some true)] [] [(_, some true), (_, some true), (_, some true), (_, some true), (_, some true), (_, some true), (_, some true), (_, some true), (_, some false), (_, some false), (_, some true)] (fun w2 => RdV w2 vd (encI .i64) (nI D) ∧ (cellsE ba 45 an0.c).at w2) (blind_then (blind_then (blind_block (blind_then (blind_then (blind_block (blind_then blind_body))))))) rfl (by kernel_rfl) (by kernel_rfl) rfl rfl rfl (by kernel_rfl) St.drawn (fun _ h => ⟨h.rd 4 rfl, h.at 0 rfl⟩) ?_
                    refine d_q rfl (q_move rfl rfl) rfl rfl ?_
                    refine d_q rfl (q_move rfl rfl) rfl rfl ?_
                    refine d_q rfl (q_move rfl rfl) rfl rfl ?_
                    refine d_q rfl (q_move rfl rfl) rfl rfl ?_
                    refine d_q rfl (q_indexV c rfl Try.underlying22 Try.sizeOf3 rfl (fun _ h => h.1) rfl rfl (by omega)) rfl rfl ?_
                    refine d_q rfl (q_loadV c 0 rfl Try.isAgg3 rfl rfl (fun _ h => h.1) hdc rfl) rfl rfl ?_
                    refine d_q rfl (q_loadCAgg (an0.c) rfl Try.isAgg45 Try.sizeOf45 rfl (fun _ h => h.2) (List.take_of_length_le (by rw [List.drop_zero, An.c_len]; exact Nat.le_refl _)) (An.c_len _)) rfl rfl ?_
                    refine d_q rfl (q_build ((mkE c dn true an0 (by omega) (by omega)).c) rfl rfl (fun w => buildE c dn an0 (by omega) (by omega) w)) rfl rfl ?_
                    refine d_e rfl ?_
                    refine e_buildSliceV (sz := 22) [.tmp 106] rfl rfl rfl rfl rfl Try.underlying26 Try.sizeOf52 rfl Try.zeroValue52 (by simp [Value.cells, Ev.c_len]) ?_
                    intro b100
                    refine d_held (fun _ h => ⟨h.rd 5 rfl, h.at 1 rfl⟩) ?_
                    refine pull3 ?_
                    refine d_e rfl ?_
                    refine e_append rfl rfl rfl Try.underlying26 Try.underlying26 info52 rfl rfl rfl rfl rfl (fun _ h => lit_rd (h.at 1 rfl) Ev.enc [(mkE c dn true an0 (by omega) (by omega))] rfl rfl) (by simp only [byt52, List.length_append, List.length_cons, List.length_nil]; omega) (by simp only [List.length_append, List.length_cons, List.length_nil]; omega) ?_
                    intro v2
                    refine pull1 ?_
                    refine drop0 ?_
                    refine d_held (fun _ h => ⟨h.rd 4 rfl, h.at 1 rfl⟩) ?_
                    refine d_q rfl (q_assign rfl rfl) rfl rfl ?_
                    refine d_nil ?_
                    refine k_then ?_
                    refine c_seq ?_
                    refine c_region _ rfl ?_
                    refine l_q rfl (q_move rfl rfl) rfl rfl ?_
                    refine l_q rfl (q_move rfl rfl) rfl rfl ?_
                    refine l_q rfl (q_indexV c rfl Try.underlying22 Try.sizeOf3 rfl (fun _ h => h.rd 4 rfl) rfl rfl (by omega)) rfl rfl ?_
                    refine l_q rfl (q_loadV c 0 rfl Try.isAgg3 rfl rfl (fun _ h => h.rd 4 rfl) hdc rfl) rfl rfl ?_
                    refine l_q rfl (q_inc rfl rfl rfl (by omega)) rfl rfl ?_
                    refine l_q rfl (q_indexV c rfl Try.underlying22 Try.sizeOf3 rfl (fun _ h => h.rd 4 rfl) rfl rfl (by omega)) rfl rfl ?_
                    refine pull4 ?_
                    refine l_e rfl ?_
                    refine e_storeV c 0 (((dn + 1 : Nat) : Int)) rfl rfl Try.sizeOf3 rfl rfl rfl (List.getElem?_eq_getElem (by omega)) (by decide) rfl ?_
                    refine l_nil ?_
                    refine k_then ?_
                    refine c_exit ?_
                    refine k_then_exit ?_
                    refine k_block_exit ?_
                    refine k_then ?_
                    refine c_region _ rfl ?_
                    refine l_q rfl (q_move rfl rfl) rfl rfl ?_
                    refine l_q rfl (q_inc rfl rfl rfl (by omega)) rfl rfl ?_
                    refine l_q rfl (q_assign rfl rfl) rfl rfl ?_
                    refine l_nil ?_
                    refine pull2 ?_
                    refine drop0 ?_
                    refine pull2 ?_
                    refine drop0 ?_
                    refine pull2 ?_
                    refine pull2 ?_
                    exact k_round ((i + 1, v2, E ++ [mkE c dn true an0 (by omega) (by omega)], B, D.set c (dn + 1))) (by dsimp only; omega) ⟨by dsimp only; omega, by dsimp only; rw [List.length_append]; simp only [List.length_cons, List.length_nil]; omega, by dsimp only; omega, hBl, by dsimp only; rw [List.length_set]; exact hDl, hfit⟩ (Sub.cons rfl (Sub.cons rfl (Sub.cons rfl (Sub.cons rfl (Sub.cons rfl (Sub.cons rfl (Sub.nil))))))) (fun _ h => by dsimp only; rw [nI_set]; exact h)
          · try simp only [decide_eq_true_eq, decide_eq_false_iff_not, Bool.not_eq_true', Bool.not_eq_false'] at h4
            refine c_false rfl ?_
            refine c_skip ?_
            refine k_then ?_
            refine c_seq ?_
            refine c_draw [(0, some true), (1, some true), (2, some true), (3, some true), (4, some true), (5, some true), (6, some true), (7, some true), (8, some true), (9, some true)] [] [(_, some true), (_, some true), (_, some true), (_, some true), (_, some true), (_, some true), (_, some true), (_, some true), (_, some true), (_, some true)] (fun w2 => RdV w2 vo encSv vs ∧ RdV w2 s.v Op.enc lo ∧ RdV w2 vb (encI .i64) (nI B)) (blind_then (blind_block (blind_then (blind_then (blind_block (blind_then blind_body)))))) rfl (by kernel_rfl) (by kernel_rfl) rfl rfl rfl (by kernel_rfl) St.drawn (fun _ h => ⟨hvo.keep h (by simp [dom]), hrd.keep h (by simp [dom]), h.rd 1 rfl⟩) ?_
            refine d_q rfl (q_move rfl rfl) rfl rfl ?_
            refine d_q rfl (q_move rfl rfl) rfl rfl ?_
            refine d_q rfl (q_indexV c rfl Try.underlying22 Try.sizeOf3 rfl (fun _ h => h.2.2) rfl rfl (by omega)) rfl rfl ?_
            refine d_q rfl (q_loadV c 0 rfl Try.isAgg3 rfl rfl (fun _ h => h.2.2) hbc rfl) rfl rfl ?_
            refine d_q rfl (q_move rfl rfl) rfl rfl ?_
            refine d_q rfl (q_move rfl rfl) rfl rfl ?_
            refine d_q rfl (q_indexV c rfl Try.underlying23 Try.sizeOf38 rfl (fun _ h => h.1) rfl rfl (by omega)) rfl rfl ?_
            refine d_q rfl (q_loadV c 0 rfl Try.isAgg38 rfl rfl (fun _ h => h.1) hs rfl) rfl rfl ?_
            refine d_q rfl (q_lenV rfl Try.underlying38 rfl (fun _ h => h.2.1)) rfl rfl ?_
            refine d_q rfl (q_lss rfl rfl rfl) rfl rfl ?_
            refine d_nil ?_
            refine k_then ?_
            refine Pre.caseB 124 rfl (fun h5 => ?_) (fun h5 => ?_)
            · try simp only [decide_eq_true_eq, decide_eq_false_iff_not, Bool.not_eq_true', Bool.not_eq_false'] at h5
              refine c_true rfl ?_
              refine c_seq ?_
              refine c_region _ rfl ?_
              refine l_q rfl (q_move rfl rfl) rfl rfl ?_
              refine l_q rfl (q_move rfl rfl) rfl rfl ?_
              refine l_q rfl (q_move rfl rfl) rfl rfl ?_
              refine l_q rfl (q_move rfl rfl) rfl rfl ?_
              refine l_q rfl (q_indexV c rfl Try.underlying22 Try.sizeOf3 rfl (fun _ h => h.rd 1 rfl) rfl rfl (by omega)) rfl rfl ?_
              refine l_q rfl (q_loadV c 0 rfl Try.isAgg3 rfl rfl (fun _ h => h.rd 1 rfl) hbc rfl) rfl rfl ?_
              refine l_q rfl (q_build ((mkE c b false an0 (by omega) (by omega)).c) rfl rfl (fun w => by kernel_rfl)) rfl rfl ?_
              refine l_e rfl ?_
              refine e_buildSliceV (sz := 22) [.tmp 131] rfl rfl rfl rfl rfl Try.underlying26 Try.sizeOf52 rfl Try.zeroValue52 (by simp [Value.cells, Ev.c_len]) ?_
              intro b102
              refine pull1 ?_
              refine l_e rfl ?_
              refine e_append rfl rfl rfl Try.underlying26 Try.underlying26 info52 rfl rfl rfl rfl rfl (fun _ h => lit_rd (h.at 1 rfl) Ev.enc [(mkE c b false an0 (by omega) (by omega))] rfl rfl) (by simp only [byt52, List.length_append, List.length_cons, List.length_nil]; omega) (by simp only [List.length_append, List.length_cons, List.length_nil]; omega) ?_
              intro v2
              refine pull1 ?_
              refine drop0 ?_
              refine l_q rfl (q_assign rfl rfl) rfl rfl ?_
              refine l_nil ?_
              refine k_then ?_
              refine c_region _ rfl ?_
              refine l_q rfl (q_move rfl rfl) rfl rfl ?_
              refine l_q rfl (q_move rfl rfl) rfl rfl ?_
              refine l_q rfl (q_indexV c rfl Try.underlying22 Try.sizeOf3 rfl (fun _ h => h.rd 1 rfl) rfl rfl (by omega)) rfl rfl ?_
              refine l_q rfl (q_loadV c 0 rfl Try.isAgg3 rfl rfl (fun _ h => h.rd 1 rfl) hbc rfl) rfl rfl ?_
              refine l_q rfl (q_add64 rfl rfl rfl (by omega)) rfl rfl ?_
              refine l_q rfl (q_indexV c rfl Try.underlying22 Try.sizeOf3 rfl (fun _ h => h.rd 1 rfl) rfl rfl (by omega)) rfl rfl ?_
              refine pull1 ?_
              refine l_e rfl ?_
              refine e_storeV c 0 (((b + 1 : Nat) : Int)) rfl rfl Try.sizeOf3 rfl rfl rfl (List.getElem?_eq_getElem (by omega)) (by decide) rfl ?_
              refine l_nil ?_
              refine k_block ?_
              refine k_then ?_
              refine c_region _ rfl ?_
              refine l_q rfl (q_move rfl rfl) rfl rfl ?_
              refine l_q rfl (q_inc rfl rfl rfl (by omega)) rfl rfl ?_
              refine l_q rfl (q_assign rfl rfl) rfl rfl ?_
              refine l_nil ?_
              refine pull2 ?_
              refine pull1 ?_
              refine pull2 ?_
              exact k_round ((i + 1, v2, E ++ [mkE c b false an0 (by omega) (by omega)], B.set c (b + 1), D)) (by dsimp only; omega) ⟨by dsimp only; omega, by dsimp only; rw [List.length_append]; simp only [List.length_cons, List.length_nil]; omega, by dsimp only; omega, by dsimp only; rw [List.length_set]; exact hBl, hDl, fit_set hfit hb hlo (by omega)⟩ (Sub.cons rfl (Sub.cons rfl (Sub.cons rfl (Sub.cons rfl (Sub.cons rfl (Sub.cons rfl (Sub.nil))))))) (fun _ h => by dsimp only; rw [nI_set]; exact h)
            · try simp only [decide_eq_true_eq, decide_eq_false_iff_not, Bool.not_eq_true', Bool.not_eq_false'] at h5
              refine c_false rfl ?_
              refine c_skip ?_
              refine k_block ?_
              refine k_then ?_
              refine c_region _ rfl ?_
              refine l_q rfl (q_move rfl rfl) rfl rfl ?_
              refine l_q rfl (q_inc rfl rfl rfl (by omega)) rfl rfl ?_
              refine l_q rfl (q_assign rfl rfl) rfl rfl ?_
              refine l_nil ?_
              exact k_round ((i + 1, v, E, B, D)) (by dsimp only; omega) ⟨by dsimp only; omega, by dsimp only; omega, by dsimp only; omega, hBl, hDl, hfit⟩ (Sub.cons rfl (Sub.cons rfl (Sub.cons rfl (Sub.cons rfl (Sub.cons rfl (Sub.cons rfl (Sub.nil))))))) (fun _ h => h)
        · try simp only [decide_eq_true_eq, decide_eq_false_iff_not, Bool.not_eq_true', Bool.not_eq_false'] at h3
          refine c_false rfl ?_
          refine c_exit ?_
          refine k_then_exit ?_
          refine k_then_exit ?_
          refine k_block_exit ?_
          refine k_then ?_
          refine c_seq ?_
          refine c_region _ rfl ?_
          refine l_q rfl (q_move rfl rfl) rfl rfl ?_
          refine l_q rfl (q_assign rfl rfl) rfl rfl ?_
          refine l_nil ?_
          refine k_then ?_
          refine c_ret ?_
          refine pull1 ?_
          refine drop0 ?_
          refine pull1 ?_
          refine drop0 ?_
          refine r_one rfl rfl ?_
          exact fun _ h => ⟨(v, E), rfl, by show E.length ≤ 80; omega, h⟩
      · try simp only [decide_eq_true_eq, decide_eq_false_iff_not, Bool.not_eq_true', Bool.not_eq_false'] at h2
        refine l_not rfl rfl rfl ?_
        refine l_not rfl rfl rfl ?_
        refine l_not rfl rfl rfl ?_
        refine l_q rfl (q_pick_f rfl rfl rfl) rfl rfl ?_
        refine l_nil ?_
        refine k_then ?_
        refine c_false rfl ?_
        refine c_exit ?_
        refine k_then_exit ?_
        refine k_then_exit ?_
        refine k_block_exit ?_
        refine k_then ?_
        refine c_seq ?_
        refine c_region _ rfl ?_
        refine l_q rfl (q_move rfl rfl) rfl rfl ?_
        refine l_q rfl (q_assign rfl rfl) rfl rfl ?_
        refine l_nil ?_
        refine k_then ?_
        refine c_ret ?_
        refine pull1 ?_
        refine drop0 ?_
        refine pull1 ?_
        refine drop0 ?_
        refine r_one rfl rfl ?_
        exact fun _ h => ⟨(v, E), rfl, by show E.length ≤ 80; omega, h⟩
    · try simp only [decide_eq_true_eq, decide_eq_false_iff_not, Bool.not_eq_true', Bool.not_eq_false'] at h1
      refine l_not rfl rfl rfl ?_
      refine l_not rfl rfl rfl ?_
      refine l_q rfl (q_pick_f rfl rfl rfl) rfl rfl ?_
      refine l_q rfl (q_move rfl rfl) rfl rfl ?_
      refine l_not rfl rfl rfl ?_
      refine l_not rfl rfl rfl ?_
      refine l_not rfl rfl rfl ?_
      refine l_q rfl (q_pick_f rfl rfl rfl) rfl rfl ?_
      refine l_nil ?_
      refine k_then ?_
      refine c_false rfl ?_
      refine c_exit ?_
      refine k_then_exit ?_
      refine k_then_exit ?_
      refine k_block_exit ?_
      refine k_then ?_
      refine c_seq ?_
      refine c_region _ rfl ?_
      refine l_q rfl (q_move rfl rfl) rfl rfl ?_
      refine l_q rfl (q_assign rfl rfl) rfl rfl ?_
      refine l_nil ?_
      refine k_then ?_
      refine c_ret ?_
      refine pull1 ?_
      refine drop0 ?_
      refine pull1 ?_
      refine drop0 ?_
      refine r_one rfl rfl ?_
      exact fun _ h => ⟨(v, E), rfl, by show E.length ≤ 80; omega, h⟩
end Go.Proofs.Ythfdmeikpbkpaaa
