/- both caches: does, frames -/
import Derived.Test.YtpfbagkjhchojaaWo
import Derived.Test.YtpfbagkjhchojaaWn
set_option linter.unusedVariables false
set_option linter.unusedSimpArgs false
namespace Go.Proofs.Ytpfbagkjhchojaa
open Go.Sep Go.RowKit

/-! ## Both caches -/
theorem perm_fin {S G T : List Ent} {e : Ent} : (e :: (T ++ (S ++ G))).Perm ((S ++ e :: G) ++ T) :=
  (List.Perm.cons e (List.perm_append_comm (l₁ := T) (l₂ := S ++ G))).trans ((List.perm_middle (l₁ := S) (a := e) (l₂ := G)).symm.append_right T)
theorem fill_told (M : Mo) (b : Int) (lf : Bool) (es : List En) : (M.fill b lf es).1.1.length ≤ M.loads.length := by
  unfold Mo.fill
  split
  · show (M.told b).length ≤ _
    unfold Mo.told
    rw [List.length_map]; exact List.length_filter_le _ _
  · exact Nat.zero_le _
theorem vw_both {fl gl : List FC} {fr : List Vw} (h1 : fl.map vw = fr) (h2 : gl.map vw = fr) {i : Nat} {f g : FC} (hf : fl[i]? = some f) (hg : gl[i]? = some g) : vw f = vw g := by
  have a := frs_at h1 hf
  rw [frs_at h2 hg] at a
  exact (Option.some.inj a).symm
/-- What is between two steps. -/
structure Both (q : Q) (R : RS) (B : Nat) : Prop where
  ok : q.Ok B
  rel : RelR R q.M
  nin : NIn q.G R.fl
theorem rdn {w0 w : World} {D : List Nat} {H : List Ent} {G : List Ent} {nv : NV} (h : St w0 D H w) (hi : (nv.e = sv0 ∧ nv.l = []) ∨ nrow nv ∈ G) (hs : ∀ e ∈ G, e ∈ H) : RdV w nv.e.v En.enc nv.l := by
  rcases hi with ⟨h1, h2⟩ | h1
  · rw [h1, h2]; exact rd_nil _
  · exact rowE_rd (h.hp.holds _ (hs _ h1))
theorem f00_blk : f00.cR = f00.cR := rfl
section
variable {n : Nat} {L : Env} {F : Act → World → Prop} {w0 : World} {D : List Nat}
theorem swap0 (A B : List Ent) (k : Pre n L (St w0 D ((B ++ A))) F) : Pre n L (St w0 D ((A ++ B))) F := k.world _ (fun w s => s.perm (List.perm_append_comm))
theorem swap1 {x0 : Ent} (A B : List Ent) (k : Pre n L (St w0 D (x0 :: (B ++ A))) F) : Pre n L (St w0 D (x0 :: (A ++ B))) F := k.world _ (fun w s => s.perm ((List.Perm.cons _ List.perm_append_comm)))
theorem swap2 {x0 x1 : Ent} (A B : List Ent) (k : Pre n L (St w0 D (x0 :: x1 :: (B ++ A))) F) : Pre n L (St w0 D (x0 :: x1 :: (A ++ B))) F := k.world _ (fun w s => s.perm ((List.Perm.cons _ (List.Perm.cons _ List.perm_append_comm))))
theorem swap3 {x0 x1 x2 : Ent} (A B : List Ent) (k : Pre n L (St w0 D (x0 :: x1 :: x2 :: (B ++ A))) F) : Pre n L (St w0 D (x0 :: x1 :: x2 :: (A ++ B))) F := k.world _ (fun w s => s.perm ((List.Perm.cons _ (List.Perm.cons _ (List.Perm.cons _ List.perm_append_comm)))))
theorem swap4 {x0 x1 x2 x3 : Ent} (A B : List Ent) (k : Pre n L (St w0 D (x0 :: x1 :: x2 :: x3 :: (B ++ A))) F) : Pre n L (St w0 D (x0 :: x1 :: x2 :: x3 :: (A ++ B))) F := k.world _ (fun w s => s.perm ((List.Perm.cons _ (List.Perm.cons _ (List.Perm.cons _ (List.Perm.cons _ List.perm_append_comm))))))
theorem swap5 {x0 x1 x2 x3 x4 : Ent} (A B : List Ent) (k : Pre n L (St w0 D (x0 :: x1 :: x2 :: x3 :: x4 :: (B ++ A))) F) : Pre n L (St w0 D (x0 :: x1 :: x2 :: x3 :: x4 :: (A ++ B))) F := k.world _ (fun w s => s.perm ((List.Perm.cons _ (List.Perm.cons _ (List.Perm.cons _ (List.Perm.cons _ (List.Perm.cons _ List.perm_append_comm)))))))
theorem swap6 {x0 x1 x2 x3 x4 x5 : Ent} (A B : List Ent) (k : Pre n L (St w0 D (x0 :: x1 :: x2 :: x3 :: x4 :: x5 :: (B ++ A))) F) : Pre n L (St w0 D (x0 :: x1 :: x2 :: x3 :: x4 :: x5 :: (A ++ B))) F := k.world _ (fun w s => s.perm ((List.Perm.cons _ (List.Perm.cons _ (List.Perm.cons _ (List.Perm.cons _ (List.Perm.cons _ (List.Perm.cons _ List.perm_append_comm))))))))
end

set_option maxRecDepth 100000 in
set_option maxHeartbeats 1000000 in
theorem does_spec {bc br : Nat} {q : Q} {R : RS} {B : Nat} (h : Both q R B) (hB : B + 1 ≤ 60000) (s : Sp) (hid : i64 s.id) : Con Try.prog 30 [.pointer (some ⟨bc, 0, none⟩), .pointer (some ⟨br, 0, none⟩), .agg s.c.toArray] (fun _ => True) (Q.H bc q ++ RS.H br R q.M) (fun _ : Q × RS => .bool true) (fun r => Both r.1 r.2 (B + 1)) (fun r => Q.H bc r.1 ++ RS.H br r.2 r.1.M) := by
  intro w hE hH
  have hq := h.ok
  have hR := h.rel
  have hN := h.nin
  have hO := hq.ok
  refine enter (n := 188) (vs := [.pointer (some ⟨bc, 0, none⟩), .pointer (some ⟨br, 0, none⟩), .agg s.c.toArray]) (St w (dom (Q.H bc q ++ RS.H br R q.M)) (Q.H bc q ++ RS.H br R q.M)) Try.func30 rfl rfl rfl (St.init hH) ?_
  refine c_seq ?_
  refine c_region _ rfl ?_
  refine l_e rfl ?_
  refine e_box rfl rfl rfl rfl ?_
  intro bs
  refine cells_eq (show _ = s.c from rfl) ?_
  refine l_q rfl (q_assign rfl rfl) rfl rfl ?_
  refine l_nil ?_
  refine k_then ?_
  refine c_seq ?_
  refine c_region _ rfl ?_
  refine l_q rfl (q_fieldAddr rfl Try.underlying60 rfl Try.sizeOf3 rfl rfl) rfl rfl ?_
  refine l_q rfl (q_loadC rfl Try.isAgg3 rfl (fun _ h => h.at 0 rfl) rfl) rfl rfl ?_
  refine l_e rfl ?_
  refine e_buildSliceV (sz := 1) [.tmp 19] rfl rfl rfl rfl rfl Try.underlying28 Try.sizeOf3 rfl Try.zeroValue3 rfl ?_
  intro b1
  refine l_e rfl ?_
  refine e_call_01 (leaf_one (s.n)) rfl rfl rfl Try.call26 rfl (fun _ h => lit_rd (h.at 0 rfl) (encI .i64) [s.n] rfl rfl) ?_
  intro nv hnv
  obtain ⟨hlf, e, hle⟩ := hnv
  refine l_e rfl ?_
  refine e_alloc rfl rfl rfl Try.zeroValue37 ?_
  intro bb
  refine cells_eq (show _ = nv0.c from rfl) ?_
  refine l_e rfl ?_
  refine e_storeAgg rfl rfl Try.sizeOf37 rfl rfl rfl (NV.one _) (by show 0 + 5 ≤ 5; decide) ?_
  refine cells_eq (show Sep.splice _ 0 (nv).c = (nv).c from Sep.splice_all rfl) ?_
  refine l_nil ?_
  refine k_then ?_
  refine c_seq ?_
  refine c_block ?_
  refine c_seq ?_
  refine c_region _ rfl ?_
  refine l_q rfl (q_fieldAddr rfl Try.underlying60 rfl Try.sizeOf3 rfl rfl) rfl rfl ?_
  refine l_q rfl (q_loadC rfl Try.isAgg3 rfl (fun _ h => h.at 3 rfl) rfl) rfl rfl ?_
  refine l_q rfl (q_leq rfl rfl rfl) rfl rfl ?_
  refine l_q rfl (q_assign rfl rfl) rfl rfl ?_
  refine l_nil ?_
  refine k_then ?_
  refine pull2 ?_
  refine drop0 ?_
  refine pull1 ?_
  refine pull1 ?_
  refine pull2 ?_
  have hnl : nv.l.length ≤ 1000 := by rw [hle]; show 1 ≤ 1000; decide
  refine Pre.caseB 22 rfl (fun w1 => ?_) (fun w1 => ?_)
  · try simp only [decide_eq_true_eq, decide_eq_false_iff_not, Bool.not_eq_true', Bool.not_eq_false'] at w1
    refine c_true rfl ?_
    refine c_seq ?_
    refine c_draw [(0, some true), (1, some true), (2, some true), (3, some true), (4, some true), (6, some true), (7, some true), (8, some true), (9, some true), (10, some true), (5, some false), (11, none), (12, none), (13, none)] [11, 12, 13] [(_, some true), (_, some true), (_, some true), (_, some true), (_, some true), (_, some true), (_, some true), (_, some true), (_, some true), (_, some true), (_, some false), (_, none), (_, none), (_, none)] (fun w2 => (cellsE bs 60 s.c).at w2 ∧ (cellsE bb 37 nv.c).at w2) (blind_then (blind_block (blind_then blind_body))) rfl (by kernel_rfl) (by kernel_rfl) rfl rfl rfl (by kernel_rfl) St.drawn (fun _ h => ⟨h.at 0 rfl, h.at 1 rfl⟩) ?_
    refine d_q rfl (q_move rfl rfl) rfl rfl ?_
    refine d_q rfl (q_fieldAddr rfl Try.underlying60 rfl Try.sizeOf3 rfl rfl) rfl rfl ?_
    refine d_q rfl (q_loadC rfl Try.isAgg3 rfl (fun _ h => h.1) rfl) rfl rfl ?_
    refine d_q rfl (q_fieldAddr rfl Try.underlying60 rfl Try.sizeOf3 rfl rfl) rfl rfl ?_
    refine d_q rfl (q_loadC rfl Try.isAgg3 rfl (fun _ h => h.1) rfl) rfl rfl ?_
    refine d_q rfl (q_move rfl rfl) rfl rfl ?_
    refine d_q rfl (q_fieldAddr rfl Try.underlying60 rfl Try.sizeOf3 rfl rfl) rfl rfl ?_
    refine d_q rfl (q_loadC rfl Try.isAgg3 rfl (fun _ h => h.1) rfl) rfl rfl ?_
    refine d_q rfl (q_fieldAddr rfl Try.underlying60 rfl Try.sizeOf3 rfl rfl) rfl rfl ?_
    refine d_q rfl (q_loadC rfl Try.isAgg3 rfl (fun _ h => h.1) rfl) rfl rfl ?_
    refine d_e rfl ?_
    refine e_callHF [_, _, _] (RS.H br R q.M) (qpin hq (by omega) (s.t) (s.id) (hid)) rfl rfl rfl Try.call12 rfl (fun _ _ => trivial) ?_
    rintro q36 ⟨hm37_, hGq36, hk38⟩
    refine Pre.world (St _ _ (_ :: _ :: _ :: (Q.H bc q36 ++ (RS.H br R q.M)))) (fun _ h => h) ?_
    have hm37 : q36.M = (q.M.pin s.t s.id).2 := by rw [hm37_, (rfl : q.M = q.M)]
    refine d_held (fun _ h => ⟨h.at 0 rfl, h.at 1 rfl⟩) ?_
    refine swap3 (Q.H bc q36) (RS.H br R q.M) ?_
    refine d_t rfl ?_
    refine e_callHF [_, _, _] (Q.H bc q36) (rpin_spec hR hO s.t s.id) rfl rfl rfl Try.call52 rfl (fun _ _ => trivial) ?_
    rintro R1 ⟨hR1, hN1⟩
    refine Pre.world (St _ _ (_ :: _ :: _ :: (RS.H br R1 (q.M.pin s.t s.id).2 ++ (Q.H bc q36)))) (fun _ h => h) ?_
    refine d_t rfl ?_
    refine e_q rfl rfl (q_eql rfl rfl rfl) ?_
    refine d_t rfl ?_
    refine e_q rfl rfl (q_assign rfl rfl) ?_
    refine d_nil ?_
    refine k_then ?_
    refine c_ret ?_
    refine k_block_ret ?_
    refine k_then_ret ?_
    have hNf : NIn (nrow nv :: q36.G) R1.fl := hN1 _ (hN.more (fun e he => List.mem_cons_of_mem _ ((by rw [hGq36]; exact fun _ x => x : ∀ e ∈ q.G, e ∈ q36.G) e he)))
    refine drop0 ?_
    refine drop0 ?_
    refine r_one rfl rfl ?_
    exact fun _ h => ⟨((⟨q36.S, q36.M, nrow nv :: q36.G⟩ : Q), R1), congrArg (fun z => Ending.returned (Value.bool z)) (decide_eq_true rfl), ⟨⟨(hk38).rel, (hk38).ok, (hk38).nin.more (fun e he => List.mem_cons_of_mem _ he)⟩, by show RelR R1 q36.M; rw [hm37]; exact hR1, hNf⟩, by
        show St _ _ (Q.H bc (⟨q36.S, q36.M, nrow nv :: q36.G⟩ : Q) ++ RS.H br R1 q36.M) _
        rw [hm37]; exact h.perm perm_fin⟩
  · try simp only [decide_eq_true_eq, decide_eq_false_iff_not, Bool.not_eq_true', Bool.not_eq_false'] at w1
    refine c_false rfl ?_
    refine c_seq ?_
    refine c_region _ rfl ?_
    refine l_q rfl (q_fieldAddr rfl Try.underlying60 rfl Try.sizeOf3 rfl rfl) rfl rfl ?_
    refine l_q rfl (q_loadC rfl Try.isAgg3 rfl (fun _ h => h.at 0 rfl) rfl) rfl rfl ?_
    refine l_q rfl (q_leq rfl rfl rfl) rfl rfl ?_
    refine l_q rfl (q_assign rfl rfl) rfl rfl ?_
    refine l_nil ?_
    refine k_then ?_
    refine Pre.caseB 39 rfl (fun w2 => ?_) (fun w2 => ?_)
    · try simp only [decide_eq_true_eq, decide_eq_false_iff_not, Bool.not_eq_true', Bool.not_eq_false'] at w2
      refine c_true rfl ?_
      refine c_seq ?_
      refine c_region _ rfl ?_
      refine l_q rfl (q_move rfl rfl) rfl rfl ?_
      refine l_q rfl (q_fieldAddr rfl Try.underlying60 rfl Try.sizeOf3 rfl rfl) rfl rfl ?_
      refine l_q rfl (q_loadC rfl Try.isAgg3 rfl (fun _ h => h.at 0 rfl) rfl) rfl rfl ?_
      refine l_q rfl (q_loadCAgg (nv.c) rfl Try.isAgg37 Try.sizeOf37 rfl (fun _ h => h.at 1 rfl) (rfl) (rfl)) rfl rfl ?_
      refine l_e rfl ?_
      refine e_callHF [_, _] (RS.H br R q.M) (qfill hq nv hnl s.id) rfl rfl rfl Try.call14 rfl (fun _ _ => trivial) ?_
      rintro ⟨q39, v40⟩ ⟨hm41_, hGq39, hk42⟩
      refine Pre.world (St _ _ (_ :: _ :: rowE v40 3 (encI .i64) (q.M.fill s.id nv.leaf nv.l).1.1 :: nrow nv :: (Q.H bc q39 ++ (RS.H br R q.M)))) (fun _ h => h) ?_
      dsimp only at hm41_ hk42
      have hm41 : q39.M = (q.M.fill s.id nv.leaf nv.l).2 := by rw [hm41_, (rfl : q.M = q.M)]
      have ht43 : (q.M.fill s.id nv.leaf nv.l).1 = ((q.M.fill s.id nv.leaf nv.l).1.1, (q.M.fill s.id nv.leaf nv.l).1.2) := by rw [(rfl : q.M = q.M)]; try rfl
      refine pull2 ?_
      refine row_eq (show _ = (q.M.fill s.id nv.leaf nv.l).1.1 from congrArg Prod.fst ht43) ?_
      refine Pre.setV (t := 48) (c := .tuple #[v40, .bool (q.M.fill s.id nv.leaf nv.l).1.2]) rfl (by rw [congrArg Prod.snd ht43]) ?_
      refine l_q rfl (q_move rfl rfl) rfl rfl ?_
      refine l_q rfl (q_extract rfl rfl rfl) rfl rfl ?_
      refine l_q rfl (q_extract rfl rfl rfl) rfl rfl ?_
      refine l_q rfl (q_assign rfl rfl) rfl rfl ?_
      refine l_q rfl (q_assign rfl rfl) rfl rfl ?_
      refine l_nil ?_
      refine k_then ?_
      refine c_seq ?_
      refine c_region _ rfl ?_
      refine l_q rfl (q_move rfl rfl) rfl rfl ?_
      refine l_q rfl (q_fieldAddr rfl Try.underlying60 rfl Try.sizeOf3 rfl rfl) rfl rfl ?_
      refine l_q rfl (q_loadC rfl Try.isAgg3 rfl (fun _ h => h.at 1 rfl) rfl) rfl rfl ?_
      refine l_q rfl (q_loadCAgg (nv.c) rfl Try.isAgg37 Try.sizeOf37 rfl (fun _ h => h.at 2 rfl) (rfl) (rfl)) rfl rfl ?_
      refine pull3 ?_
      refine pull3 ?_
      refine pull3 ?_
      refine pull3 ?_
      refine swap4 (Q.H bc q39) (RS.H br R q.M) ?_
      refine l_e rfl ?_
      refine e_callHF [_, _, _, _] (Q.H bc q39) (rfill_spec hR hO s.id nv) rfl rfl rfl Try.call53 rfl (fun _ _ => trivial) ?_
      rintro ⟨R1, v1⟩ ⟨hR1, hN1⟩
      refine Pre.world (St _ _ (_ :: _ :: _ :: _ :: rowE v1 3 (encI .i64) (q.M.fill s.id nv.leaf nv.l).1.1 :: (RS.H br R1 (q.M.fill s.id nv.leaf nv.l).2 ++ (Q.H bc q39)))) (fun _ h => h) ?_
      dsimp only at hR1 hN1
      refine l_q rfl (q_move rfl rfl) rfl rfl ?_
      refine l_q rfl (q_extract rfl rfl rfl) rfl rfl ?_
      refine l_q rfl (q_extract rfl rfl rfl) rfl rfl ?_
      refine l_q rfl (q_assign rfl rfl) rfl rfl ?_
      refine l_q rfl (q_assign rfl rfl) rfl rfl ?_
      refine l_nil ?_
      refine k_then ?_
      refine c_seq ?_
      refine c_region _ rfl ?_
      refine l_q rfl (q_move rfl rfl) rfl rfl ?_
      refine l_q rfl (q_move rfl rfl) rfl rfl ?_
      have htl := fill_told q.M s.id nv.leaf nv.l
      have hll := hO.ll
      have hB9 := hO.B9
      refine l_e rfl ?_
      refine e_call_00 (sameints_spec (q.M.fill s.id nv.leaf nv.l).1.1 (q.M.fill s.id nv.leaf nv.l).1.1 (by omega)) rfl rfl rfl Try.call17 rfl (fun _ h => ⟨h.rd 0 rfl, h.rd 4 rfl⟩) ?_
      intro _ _
      refine l_q rfl (q_move rfl rfl) rfl rfl ?_
      refine Pre.setB (t := 62) (c := true) rfl (decide_eq_true rfl) ?_
      refine l_q rfl (q_move rfl rfl) rfl rfl ?_
      refine l_q rfl (q_move rfl rfl) rfl rfl ?_
      refine l_q rfl (q_eqb rfl Try.underlying4 rfl rfl) rfl rfl ?_
      refine l_q rfl (q_pick_t rfl rfl rfl) rfl rfl ?_
      refine l_q rfl (q_assign rfl rfl) rfl rfl ?_
      refine l_nil ?_
      refine k_then ?_
      refine c_ret ?_
      refine k_block_ret ?_
      refine k_then_ret ?_
      have hNf : NIn (nrow nv :: q39.G) R1.fl := hN1 _ (.inr (List.mem_cons_self ..)) (hN.more (fun e he => List.mem_cons_of_mem _ (hGq39 e he)))
      refine drop0 ?_
      refine drop0 ?_
      refine drop0 ?_
      refine pull1 ?_
      refine drop0 ?_
      refine r_one rfl rfl ?_
      exact fun _ h => ⟨((⟨q39.S, q39.M, nrow nv :: q39.G⟩ : Q), R1), congrArg (fun z => Ending.returned (Value.bool z)) (beq_self_eq_true _), ⟨⟨(hk42.mono (Nat.le_succ B) hB).rel, (hk42.mono (Nat.le_succ B) hB).ok, (hk42.mono (Nat.le_succ B) hB).nin.more (fun e he => List.mem_cons_of_mem _ he)⟩, by show RelR R1 q39.M; rw [hm41]; exact hR1, hNf⟩, by
          show St _ _ (Q.H bc (⟨q39.S, q39.M, nrow nv :: q39.G⟩ : Q) ++ RS.H br R1 q39.M) _
          rw [hm41]; exact h.perm perm_fin⟩
    · try simp only [decide_eq_true_eq, decide_eq_false_iff_not, Bool.not_eq_true', Bool.not_eq_false'] at w2
      refine c_false rfl ?_
      refine c_seq ?_
      refine c_region _ rfl ?_
      refine l_q rfl (q_fieldAddr rfl Try.underlying60 rfl Try.sizeOf3 rfl rfl) rfl rfl ?_
      refine l_q rfl (q_loadC rfl Try.isAgg3 rfl (fun _ h => h.at 0 rfl) rfl) rfl rfl ?_
      refine l_q rfl (q_eql rfl rfl rfl) rfl rfl ?_
      refine l_q rfl (q_assign rfl rfl) rfl rfl ?_
      refine l_nil ?_
      refine k_then ?_
      refine Pre.caseB 67 rfl (fun w3 => ?_) (fun w3 => ?_)
      · try simp only [decide_eq_true_eq, decide_eq_false_iff_not, Bool.not_eq_true', Bool.not_eq_false'] at w3
        refine c_true rfl ?_
        refine c_seq ?_
        refine c_draw [(0, some true), (1, some true), (2, some true), (4, some true), (5, some true), (6, some true), (3, some false), (7, none), (8, none), (9, none)] [7, 8, 9] [(_, some true), (_, some true), (_, some true), (_, some true), (_, some true), (_, some true), (_, some false), (_, none), (_, none), (_, none)] (fun w2 => (cellsE bs 60 s.c).at w2 ∧ (cellsE bb 37 nv.c).at w2) (blind_then (blind_block (blind_then blind_body))) rfl (by kernel_rfl) (by kernel_rfl) rfl rfl rfl (by kernel_rfl) St.drawn (fun _ h => ⟨h.at 0 rfl, h.at 1 rfl⟩) ?_
        refine d_q rfl (q_move rfl rfl) rfl rfl ?_
        refine d_q rfl (q_fieldAddr rfl Try.underlying60 rfl Try.sizeOf3 rfl rfl) rfl rfl ?_
        refine d_q rfl (q_loadC rfl Try.isAgg3 rfl (fun _ h => h.1) rfl) rfl rfl ?_
        refine d_q rfl (q_move rfl rfl) rfl rfl ?_
        refine d_q rfl (q_fieldAddr rfl Try.underlying60 rfl Try.sizeOf3 rfl rfl) rfl rfl ?_
        refine d_q rfl (q_loadC rfl Try.isAgg3 rfl (fun _ h => h.1) rfl) rfl rfl ?_
        refine d_e rfl ?_
        refine e_callHF [_, _, _] (RS.H br R q.M) (qclaim hq (by omega) (s.t)) rfl rfl rfl Try.call22 rfl (fun _ _ => trivial) ?_
        rintro q44 ⟨hm45_, hGq44, hk46⟩
        refine Pre.world (St _ _ (_ :: _ :: _ :: (Q.H bc q44 ++ (RS.H br R q.M)))) (fun _ h => h) ?_
        have hm45 : q44.M = (q.M.claim s.t).2 := by rw [hm45_, (rfl : q.M = q.M)]
        refine d_held (fun _ h => ⟨h.at 0 rfl, h.at 1 rfl⟩) ?_
        refine swap3 (Q.H bc q44) (RS.H br R q.M) ?_
        refine d_t rfl ?_
        refine e_callHF [_, _, _] (Q.H bc q44) (rclaim_spec hR hO s.t) rfl rfl rfl Try.call54 rfl (fun _ _ => trivial) ?_
        rintro R1 ⟨hR1, hN1⟩
        refine Pre.world (St _ _ (_ :: _ :: _ :: (RS.H br R1 (q.M.claim s.t).2 ++ (Q.H bc q44)))) (fun _ h => h) ?_
        refine d_t rfl ?_
        refine e_q rfl rfl (q_eqb rfl Try.underlying4 rfl rfl) ?_
        refine d_t rfl ?_
        refine e_q rfl rfl (q_assign rfl rfl) ?_
        refine d_nil ?_
        refine k_then ?_
        refine c_ret ?_
        refine k_block_ret ?_
        refine k_then_ret ?_
        have hNf : NIn (nrow nv :: q44.G) R1.fl := hN1 _ (hN.more (fun e he => List.mem_cons_of_mem _ ((by rw [hGq44]; exact fun _ x => x : ∀ e ∈ q.G, e ∈ q44.G) e he)))
        refine drop0 ?_
        refine drop0 ?_
        refine r_one rfl rfl ?_
        exact fun _ h => ⟨((⟨q44.S, q44.M, nrow nv :: q44.G⟩ : Q), R1), congrArg (fun z => Ending.returned (Value.bool z)) (beq_self_eq_true _), ⟨⟨(hk46).rel, (hk46).ok, (hk46).nin.more (fun e he => List.mem_cons_of_mem _ he)⟩, by show RelR R1 q44.M; rw [hm45]; exact hR1, hNf⟩, by
            show St _ _ (Q.H bc (⟨q44.S, q44.M, nrow nv :: q44.G⟩ : Q) ++ RS.H br R1 q44.M) _
            rw [hm45]; exact h.perm perm_fin⟩
      · try simp only [decide_eq_true_eq, decide_eq_false_iff_not, Bool.not_eq_true', Bool.not_eq_false'] at w3
        refine c_false rfl ?_
        refine c_seq ?_
        refine c_region _ rfl ?_
        refine l_q rfl (q_fieldAddr rfl Try.underlying60 rfl Try.sizeOf3 rfl rfl) rfl rfl ?_
        refine l_q rfl (q_loadC rfl Try.isAgg3 rfl (fun _ h => h.at 0 rfl) rfl) rfl rfl ?_
        refine l_q rfl (q_eql rfl rfl rfl) rfl rfl ?_
        refine l_q rfl (q_assign rfl rfl) rfl rfl ?_
        refine l_nil ?_
        refine k_then ?_
        refine Pre.caseB 80 rfl (fun w4 => ?_) (fun w4 => ?_)
        · try simp only [decide_eq_true_eq, decide_eq_false_iff_not, Bool.not_eq_true', Bool.not_eq_false'] at w4
          refine c_true rfl ?_
          refine c_seq ?_
          refine c_draw [(0, some true), (1, some true), (2, some true), (4, some true), (5, some true), (6, some true), (3, some false), (7, none), (8, none), (9, none)] [7, 8, 9] [(_, some true), (_, some true), (_, some true), (_, some true), (_, some true), (_, some true), (_, some false), (_, none), (_, none), (_, none)] (fun w2 => (cellsE bs 60 s.c).at w2 ∧ (cellsE bb 37 nv.c).at w2) (blind_then (blind_block (blind_then blind_body))) rfl (by kernel_rfl) (by kernel_rfl) rfl rfl rfl (by kernel_rfl) St.drawn (fun _ h => ⟨h.at 0 rfl, h.at 1 rfl⟩) ?_
          refine d_q rfl (q_move rfl rfl) rfl rfl ?_
          refine d_q rfl (q_fieldAddr rfl Try.underlying60 rfl Try.sizeOf3 rfl rfl) rfl rfl ?_
          refine d_q rfl (q_loadC rfl Try.isAgg3 rfl (fun _ h => h.1) rfl) rfl rfl ?_
          refine d_q rfl (q_move rfl rfl) rfl rfl ?_
          refine d_q rfl (q_fieldAddr rfl Try.underlying60 rfl Try.sizeOf3 rfl rfl) rfl rfl ?_
          refine d_q rfl (q_loadC rfl Try.isAgg3 rfl (fun _ h => h.1) rfl) rfl rfl ?_
          refine d_e rfl ?_
          refine e_callHF [_, _, _] (RS.H br R q.M) (qgive hq (s.t)) rfl rfl rfl Try.call24 rfl (fun _ _ => trivial) ?_
          rintro q47 ⟨hm48_, hGq47, hk49⟩
          refine Pre.world (St _ _ (_ :: _ :: _ :: (Q.H bc q47 ++ (RS.H br R q.M)))) (fun _ h => h) ?_
          have hm48 : q47.M = (q.M.give s.t) := by rw [hm48_, (rfl : q.M = q.M)]
          refine d_held (fun _ h => ⟨h.at 0 rfl, h.at 1 rfl⟩) ?_
          refine swap3 (Q.H bc q47) (RS.H br R q.M) ?_
          refine d_t rfl ?_
          refine e_callHF [_, _, _] (Q.H bc q47) (rgive_spec hR hO s.t) rfl rfl rfl Try.call55 rfl (fun _ _ => trivial) ?_
          rintro R1 ⟨hR1, hN1⟩
          refine Pre.world (St _ _ (_ :: _ :: _ :: (RS.H br R1 (q.M.give s.t) ++ (Q.H bc q47)))) (fun _ h => h) ?_
          refine d_t rfl ?_
          refine e_q rfl rfl (q_eql rfl rfl rfl) ?_
          refine d_t rfl ?_
          refine e_q rfl rfl (q_assign rfl rfl) ?_
          refine d_nil ?_
          refine k_then ?_
          refine c_ret ?_
          refine k_block_ret ?_
          refine k_then_ret ?_
          have hNf : NIn (nrow nv :: q47.G) R1.fl := hN1 _ (hN.more (fun e he => List.mem_cons_of_mem _ ((by rw [hGq47]; exact fun _ x => x : ∀ e ∈ q.G, e ∈ q47.G) e he)))
          refine drop0 ?_
          refine drop0 ?_
          refine r_one rfl rfl ?_
          exact fun _ h => ⟨((⟨q47.S, q47.M, nrow nv :: q47.G⟩ : Q), R1), congrArg (fun z => Ending.returned (Value.bool z)) (decide_eq_true rfl), ⟨⟨(hk49.mono (Nat.le_succ B) hB).rel, (hk49.mono (Nat.le_succ B) hB).ok, (hk49.mono (Nat.le_succ B) hB).nin.more (fun e he => List.mem_cons_of_mem _ he)⟩, by show RelR R1 q47.M; rw [hm48]; exact hR1, hNf⟩, by
              show St _ _ (Q.H bc (⟨q47.S, q47.M, nrow nv :: q47.G⟩ : Q) ++ RS.H br R1 q47.M) _
              rw [hm48]; exact h.perm perm_fin⟩
        · try simp only [decide_eq_true_eq, decide_eq_false_iff_not, Bool.not_eq_true', Bool.not_eq_false'] at w4
          refine c_false rfl ?_
          refine c_seq ?_
          refine c_region _ rfl ?_
          refine l_q rfl (q_fieldAddr rfl Try.underlying60 rfl Try.sizeOf3 rfl rfl) rfl rfl ?_
          refine l_q rfl (q_loadC rfl Try.isAgg3 rfl (fun _ h => h.at 0 rfl) rfl) rfl rfl ?_
          refine l_q rfl (q_eql rfl rfl rfl) rfl rfl ?_
          refine l_q rfl (q_assign rfl rfl) rfl rfl ?_
          refine l_nil ?_
          refine k_then ?_
          refine Pre.caseB 93 rfl (fun w5 => ?_) (fun w5 => ?_)
          · try simp only [decide_eq_true_eq, decide_eq_false_iff_not, Bool.not_eq_true', Bool.not_eq_false'] at w5
            refine c_true rfl ?_
            refine c_seq ?_
            refine c_draw [(0, some true), (1, some true), (2, some true), (3, some true), (4, some true), (5, some true), (7, some true), (8, some true), (9, some true), (10, some true), (11, some true), (12, some true), (6, some false), (13, none), (14, none), (15, none)] [13, 14, 15] [(_, some true), (_, some true), (_, some true), (_, some true), (_, some true), (_, some true), (_, some true), (_, some true), (_, some true), (_, some true), (_, some true), (_, some true), (_, some false), (_, none), (_, none), (_, none)] (fun w2 => (cellsE bs 60 s.c).at w2 ∧ (cellsE bb 37 nv.c).at w2) (blind_then (blind_block (blind_then blind_body))) rfl (by kernel_rfl) (by kernel_rfl) rfl rfl rfl (by kernel_rfl) St.drawn (fun _ h => ⟨h.at 0 rfl, h.at 1 rfl⟩) ?_
            refine d_q rfl (q_move rfl rfl) rfl rfl ?_
            refine d_q rfl (q_fieldAddr rfl Try.underlying60 rfl Try.sizeOf3 rfl rfl) rfl rfl ?_
            refine d_q rfl (q_loadC rfl Try.isAgg3 rfl (fun _ h => h.1) rfl) rfl rfl ?_
            refine d_q rfl (q_fieldAddr rfl Try.underlying60 rfl Try.sizeOf3 rfl rfl) rfl rfl ?_
            refine d_q rfl (q_loadC rfl Try.isAgg3 rfl (fun _ h => h.1) rfl) rfl rfl ?_
            refine d_q rfl (q_loadCAgg (nv.c) rfl Try.isAgg37 Try.sizeOf37 rfl (fun _ h => h.2) (rfl) (rfl)) rfl rfl ?_
            refine d_q rfl (q_move rfl rfl) rfl rfl ?_
            refine d_q rfl (q_fieldAddr rfl Try.underlying60 rfl Try.sizeOf3 rfl rfl) rfl rfl ?_
            refine d_q rfl (q_loadC rfl Try.isAgg3 rfl (fun _ h => h.1) rfl) rfl rfl ?_
            refine d_q rfl (q_fieldAddr rfl Try.underlying60 rfl Try.sizeOf3 rfl rfl) rfl rfl ?_
            refine d_q rfl (q_loadC rfl Try.isAgg3 rfl (fun _ h => h.1) rfl) rfl rfl ?_
            refine d_q rfl (q_loadCAgg (nv.c) rfl Try.isAgg37 Try.sizeOf37 rfl (fun _ h => h.2) (rfl) (rfl)) rfl rfl ?_
            refine d_e rfl ?_
            refine e_callHF [_, _] (RS.H br R q.M) (qname hq nv hnl s.t s.id) rfl rfl rfl Try.call25 rfl (fun _ _ => trivial) ?_
            rintro q50 ⟨hm51_, hGq50, hk52⟩
            refine Pre.world (St _ _ (_ :: _ :: _ :: (Q.H bc q50 ++ (RS.H br R q.M)))) (fun _ h => h) ?_
            have hm51 : q50.M = (q.M.name s.t s.id nv.leaf nv.l).2 := by rw [hm51_, (rfl : q.M = q.M)]
            refine d_held (fun _ h => ⟨h.at 0 rfl, h.at 1 rfl⟩) ?_
            refine swap3 (Q.H bc q50) (RS.H br R q.M) ?_
            refine d_t rfl ?_
            refine e_callHF [_, _, _] (Q.H bc q50) (rname_spec hR hO s.t s.id nv) rfl rfl rfl Try.call56 rfl (fun _ _ => trivial) ?_
            rintro R1 ⟨hR1, hN1⟩
            refine Pre.world (St _ _ (_ :: _ :: _ :: (RS.H br R1 (q.M.name s.t s.id nv.leaf nv.l).2 ++ (Q.H bc q50)))) (fun _ h => h) ?_
            refine d_t rfl ?_
            refine e_q rfl rfl (q_eqb rfl Try.underlying4 rfl rfl) ?_
            refine d_t rfl ?_
            refine e_q rfl rfl (q_assign rfl rfl) ?_
            refine d_nil ?_
            refine k_then ?_
            refine c_ret ?_
            refine k_block_ret ?_
            refine k_then_ret ?_
            have hNf : NIn (nrow nv :: q50.G) R1.fl := hN1 _ (.inr (List.mem_cons_self ..)) (hN.more (fun e he => List.mem_cons_of_mem _ (hGq50 e he)))
            refine drop0 ?_
            refine drop0 ?_
            refine r_one rfl rfl ?_
            exact fun _ h => ⟨((⟨q50.S, q50.M, nrow nv :: q50.G⟩ : Q), R1), congrArg (fun z => Ending.returned (Value.bool z)) (beq_self_eq_true _), ⟨⟨(hk52.mono (Nat.le_succ B) hB).rel, (hk52.mono (Nat.le_succ B) hB).ok, (hk52.mono (Nat.le_succ B) hB).nin.more (fun e he => List.mem_cons_of_mem _ he)⟩, by show RelR R1 q50.M; rw [hm51]; exact hR1, hNf⟩, by
                show St _ _ (Q.H bc (⟨q50.S, q50.M, nrow nv :: q50.G⟩ : Q) ++ RS.H br R1 q50.M) _
                rw [hm51]; exact h.perm perm_fin⟩
          · try simp only [decide_eq_true_eq, decide_eq_false_iff_not, Bool.not_eq_true', Bool.not_eq_false'] at w5
            refine c_false rfl ?_
            refine c_seq ?_
            refine c_region _ rfl ?_
            refine l_q rfl (q_fieldAddr rfl Try.underlying60 rfl Try.sizeOf3 rfl rfl) rfl rfl ?_
            refine l_q rfl (q_loadC rfl Try.isAgg3 rfl (fun _ h => h.at 0 rfl) rfl) rfl rfl ?_
            refine l_q rfl (q_leq rfl rfl rfl) rfl rfl ?_
            refine l_q rfl (q_assign rfl rfl) rfl rfl ?_
            refine l_nil ?_
            refine k_then ?_
            refine Pre.caseB 112 rfl (fun w6 => ?_) (fun w6 => ?_)
            · try simp only [decide_eq_true_eq, decide_eq_false_iff_not, Bool.not_eq_true', Bool.not_eq_false'] at w6
              refine c_true rfl ?_
              refine c_seq ?_
              refine c_draw [(0, some true), (1, some true), (2, some true), (4, some true), (5, some true), (6, some true), (3, some false), (7, none), (8, none), (9, none)] [7, 8, 9] [(_, some true), (_, some true), (_, some true), (_, some true), (_, some true), (_, some true), (_, some false), (_, none), (_, none), (_, none)] (fun w2 => (cellsE bs 60 s.c).at w2 ∧ (cellsE bb 37 nv.c).at w2) (blind_then (blind_block (blind_then blind_body))) rfl (by kernel_rfl) (by kernel_rfl) rfl rfl rfl (by kernel_rfl) St.drawn (fun _ h => ⟨h.at 0 rfl, h.at 1 rfl⟩) ?_
              refine d_q rfl (q_move rfl rfl) rfl rfl ?_
              refine d_q rfl (q_fieldAddr rfl Try.underlying60 rfl Try.sizeOf3 rfl rfl) rfl rfl ?_
              refine d_q rfl (q_loadC rfl Try.isAgg3 rfl (fun _ h => h.1) rfl) rfl rfl ?_
              refine d_q rfl (q_move rfl rfl) rfl rfl ?_
              refine d_q rfl (q_fieldAddr rfl Try.underlying60 rfl Try.sizeOf3 rfl rfl) rfl rfl ?_
              refine d_q rfl (q_loadC rfl Try.isAgg3 rfl (fun _ h => h.1) rfl) rfl rfl ?_
              refine d_e rfl ?_
              refine e_callHF [_, _, _] (RS.H br R q.M) (qunpin hq (s.id)) rfl rfl rfl Try.call19 rfl (fun _ _ => trivial) ?_
              rintro q53 ⟨hm54_, hGq53, hk55⟩
              refine Pre.world (St _ _ (_ :: _ :: _ :: (Q.H bc q53 ++ (RS.H br R q.M)))) (fun _ h => h) ?_
              have hm54 : q53.M = (q.M.unpin s.id).2 := by rw [hm54_, (rfl : q.M = q.M)]
              refine d_held (fun _ h => ⟨h.at 0 rfl, h.at 1 rfl⟩) ?_
              refine swap3 (Q.H bc q53) (RS.H br R q.M) ?_
              refine d_t rfl ?_
              refine e_callHF [_, _, _] (Q.H bc q53) (runpin_spec hR hO s.id) rfl rfl rfl Try.call57 rfl (fun _ _ => trivial) ?_
              rintro R1 ⟨hR1, hN1⟩
              refine Pre.world (St _ _ (_ :: _ :: _ :: (RS.H br R1 (q.M.unpin s.id).2 ++ (Q.H bc q53)))) (fun _ h => h) ?_
              refine d_t rfl ?_
              refine e_q rfl rfl (q_eqb rfl Try.underlying4 rfl rfl) ?_
              refine d_t rfl ?_
              refine e_q rfl rfl (q_assign rfl rfl) ?_
              refine d_nil ?_
              refine k_then ?_
              refine c_ret ?_
              refine k_block_ret ?_
              refine k_then_ret ?_
              have hNf : NIn (nrow nv :: q53.G) R1.fl := hN1 _ (hN.more (fun e he => List.mem_cons_of_mem _ ((by rw [hGq53]; exact fun _ x => x : ∀ e ∈ q.G, e ∈ q53.G) e he)))
              refine drop0 ?_
              refine drop0 ?_
              refine r_one rfl rfl ?_
              exact fun _ h => ⟨((⟨q53.S, q53.M, nrow nv :: q53.G⟩ : Q), R1), congrArg (fun z => Ending.returned (Value.bool z)) (beq_self_eq_true _), ⟨⟨(hk55.mono (Nat.le_succ B) hB).rel, (hk55.mono (Nat.le_succ B) hB).ok, (hk55.mono (Nat.le_succ B) hB).nin.more (fun e he => List.mem_cons_of_mem _ he)⟩, by show RelR R1 q53.M; rw [hm54]; exact hR1, hNf⟩, by
                  show St _ _ (Q.H bc (⟨q53.S, q53.M, nrow nv :: q53.G⟩ : Q) ++ RS.H br R1 q53.M) _
                  rw [hm54]; exact h.perm perm_fin⟩
            · try simp only [decide_eq_true_eq, decide_eq_false_iff_not, Bool.not_eq_true', Bool.not_eq_false'] at w6
              refine c_false rfl ?_
              refine c_seq ?_
              refine c_region _ rfl ?_
              refine l_q rfl (q_fieldAddr rfl Try.underlying60 rfl Try.sizeOf3 rfl rfl) rfl rfl ?_
              refine l_q rfl (q_loadC rfl Try.isAgg3 rfl (fun _ h => h.at 0 rfl) rfl) rfl rfl ?_
              refine l_q rfl (q_eql rfl rfl rfl) rfl rfl ?_
              refine l_q rfl (q_assign rfl rfl) rfl rfl ?_
              refine l_nil ?_
              refine k_then ?_
              refine Pre.caseB 125 rfl (fun w7 => ?_) (fun w7 => ?_)
              · try simp only [decide_eq_true_eq, decide_eq_false_iff_not, Bool.not_eq_true', Bool.not_eq_false'] at w7
                refine c_true rfl ?_
                refine c_seq ?_
                refine c_draw [(0, some true), (1, some true), (2, some true), (3, some true), (5, some true), (6, some true), (7, some true), (8, some true), (4, some false), (9, none), (10, none), (11, none)] [9, 10, 11] [(_, some true), (_, some true), (_, some true), (_, some true), (_, some true), (_, some true), (_, some true), (_, some true), (_, some false), (_, none), (_, none), (_, none)] (fun w2 => (cellsE bs 60 s.c).at w2 ∧ (cellsE bb 37 nv.c).at w2) (blind_then (blind_block (blind_then blind_body))) rfl (by kernel_rfl) (by kernel_rfl) rfl rfl rfl (by kernel_rfl) St.drawn (fun _ h => ⟨h.at 0 rfl, h.at 1 rfl⟩) ?_
                refine d_q rfl (q_move rfl rfl) rfl rfl ?_
                refine d_q rfl (q_fieldAddr rfl Try.underlying60 rfl Try.sizeOf3 rfl rfl) rfl rfl ?_
                refine d_q rfl (q_loadC rfl Try.isAgg3 rfl (fun _ h => h.1) rfl) rfl rfl ?_
                refine d_q rfl (q_loadCAgg (nv.c) rfl Try.isAgg37 Try.sizeOf37 rfl (fun _ h => h.2) (rfl) (rfl)) rfl rfl ?_
                refine d_q rfl (q_move rfl rfl) rfl rfl ?_
                refine d_q rfl (q_fieldAddr rfl Try.underlying60 rfl Try.sizeOf3 rfl rfl) rfl rfl ?_
                refine d_q rfl (q_loadC rfl Try.isAgg3 rfl (fun _ h => h.1) rfl) rfl rfl ?_
                refine d_q rfl (q_loadCAgg (nv.c) rfl Try.isAgg37 Try.sizeOf37 rfl (fun _ h => h.2) (rfl) (rfl)) rfl rfl ?_
                refine d_e rfl ?_
                refine e_callHF [_, _] (RS.H br R q.M) (qset hq nv hnl s.id) rfl rfl rfl Try.call28 rfl (fun _ _ => trivial) ?_
                rintro q56 ⟨hm57_, hGq56, hk58⟩
                refine Pre.world (St _ _ (_ :: _ :: _ :: (Q.H bc q56 ++ (RS.H br R q.M)))) (fun _ h => h) ?_
                have hm57 : q56.M = (q.M.setN s.id nv.leaf nv.l).2 := by rw [hm57_, (rfl : q.M = q.M)]
                refine d_held (fun _ h => ⟨h.at 0 rfl, h.at 1 rfl⟩) ?_
                refine swap3 (Q.H bc q56) (RS.H br R q.M) ?_
                refine d_t rfl ?_
                refine e_callHF [_, _, _] (Q.H bc q56) (rset_spec hR hO s.id nv) rfl rfl rfl Try.call58 rfl (fun _ _ => trivial) ?_
                rintro R1 ⟨hR1, hN1⟩
                refine Pre.world (St _ _ (_ :: _ :: _ :: (RS.H br R1 (q.M.setN s.id nv.leaf nv.l).2 ++ (Q.H bc q56)))) (fun _ h => h) ?_
                refine d_t rfl ?_
                refine e_q rfl rfl (q_eqb rfl Try.underlying4 rfl rfl) ?_
                refine d_t rfl ?_
                refine e_q rfl rfl (q_assign rfl rfl) ?_
                refine d_nil ?_
                refine k_then ?_
                refine c_ret ?_
                refine k_block_ret ?_
                refine k_then_ret ?_
                have hNf : NIn (nrow nv :: q56.G) R1.fl := hN1 _ (.inr (List.mem_cons_self ..)) (hN.more (fun e he => List.mem_cons_of_mem _ (hGq56 e he)))
                refine drop0 ?_
                refine drop0 ?_
                refine r_one rfl rfl ?_
                exact fun _ h => ⟨((⟨q56.S, q56.M, nrow nv :: q56.G⟩ : Q), R1), congrArg (fun z => Ending.returned (Value.bool z)) (beq_self_eq_true _), ⟨⟨(hk58.mono (Nat.le_succ B) hB).rel, (hk58.mono (Nat.le_succ B) hB).ok, (hk58.mono (Nat.le_succ B) hB).nin.more (fun e he => List.mem_cons_of_mem _ he)⟩, by show RelR R1 q56.M; rw [hm57]; exact hR1, hNf⟩, by
                    show St _ _ (Q.H bc (⟨q56.S, q56.M, nrow nv :: q56.G⟩ : Q) ++ RS.H br R1 q56.M) _
                    rw [hm57]; exact h.perm perm_fin⟩
              · try simp only [decide_eq_true_eq, decide_eq_false_iff_not, Bool.not_eq_true', Bool.not_eq_false'] at w7
                refine c_false rfl ?_
                refine c_skip ?_
                refine k_block ?_
                refine k_then ?_
                refine c_seq ?_
                refine c_region _ rfl ?_
                refine l_q rfl (q_move rfl rfl) rfl rfl ?_
                refine opt_cases ((swM q.M.can q.M.rfs q.M.hand).1) (fun hs => ?_) (fun k hs => ?_)
                · have hev : q.M.evict.1 = none := congrArg Prod.fst (evict_none hs)
                  have hsp : swP q.M.can q.M.rfs q.M.hand = -1 := by unfold swP; rw [hs]
                  refine l_e rfl ?_
                  refine e_callHF [_, _, _] (RS.H br R q.M) (qevict hq) rfl rfl rfl Try.call20 rfl (fun _ _ => trivial) ?_
                  rintro ⟨q59, en60⟩ ⟨hm61_, hg66, hk62, hi64, hx63⟩
                  refine Pre.world (St _ _ (_ :: _ :: _ :: (Q.H bc q59 ++ (RS.H br R q.M)))) (fun _ h => h) ?_
                  dsimp only at hm61_ hk62 hi64 hx63 hg66
                  rw [← hg66] at hi64
                  have hm61 : q59.M = q.M.evict.2 := by rw [hm61_, (rfl : q.M = q.M)]
                  have he65 : q.M.evict.1 = none := by rw [(rfl : q.M = q.M)]; exact hev
                  rw [he65] at hx63
                  refine Pre.setV (t := 142) (c := evV none en60) rfl (by rw [he65]) ?_
                  refine l_q rfl (q_move rfl rfl) rfl rfl ?_
                  refine l_q rfl (q_extract rfl rfl rfl) rfl rfl ?_
                  refine l_q rfl (q_extract rfl rfl rfl) rfl rfl ?_
                  refine l_q rfl (q_extract rfl rfl rfl) rfl rfl ?_
                  refine l_q rfl (q_extract rfl rfl rfl) rfl rfl ?_
                  refine l_e rfl ?_
                  refine e_alloc rfl rfl rfl Try.zeroValue37 ?_
                  intro bx
                  refine cells_eq (show _ = nv0.c from rfl) ?_
                  refine l_q rfl (q_assign rfl rfl) rfl rfl ?_
                  refine l_e rfl ?_
                  refine e_storeAgg rfl rfl Try.sizeOf37 rfl rfl rfl (NV.one _) (by show 0 + 5 ≤ 5; decide) ?_
                  refine cells_eq (show Sep.splice _ 0 (nv0).c = (nv0).c from Sep.splice_all rfl) ?_
                  refine l_q rfl (q_assign rfl rfl) rfl rfl ?_
                  refine l_q rfl (q_assign rfl rfl) rfl rfl ?_
                  refine l_nil ?_
                  refine k_then ?_
                  refine c_seq ?_
                  refine c_region _ rfl ?_
                  refine l_q rfl (q_move rfl rfl) rfl rfl ?_
                  refine swap4 (Q.H bc q59) (RS.H br R q.M) ?_
                  refine l_e rfl ?_
                  refine e_callHF [_, _, _, _] (Q.H bc q59) (revict_spec hR hO) rfl rfl rfl Try.call59 rfl (fun _ _ => trivial) ?_
                  rintro ⟨R1, g⟩ ⟨hR1, hNg, hvg⟩
                  refine Pre.world (St _ _ (_ :: _ :: _ :: _ :: (RS.H br R1 q.M.evict.2 ++ (Q.H bc q59)))) (fun _ h => h) ?_
                  dsimp only at hR1 hNg hvg
                  refine Pre.setV (t := 149) (c := .tuple #[.int .i64 (-1), .agg g.cR.toArray]) rfl (by rw [hsp]) ?_
                  refine l_q rfl (q_move rfl rfl) rfl rfl ?_
                  refine l_q rfl (q_extract rfl rfl rfl) rfl rfl ?_
                  refine l_q rfl (q_extract rfl rfl rfl) rfl rfl ?_
                  obtain ⟨hN1, hgn⟩ := hNg q59.G (hN.more (fun e he => (by rw [hg66]; exact fun _ x => x : ∀ e ∈ q.G, e ∈ q59.G) e he))
                  refine l_e rfl ?_
                  refine e_alloc rfl rfl rfl Try.zeroValue102 ?_
                  intro bf
                  refine cells_eq (show _ = f00.cR from rfl) ?_
                  refine l_q rfl (q_assign rfl rfl) rfl rfl ?_
                  refine l_e rfl ?_
                  refine e_storeAgg rfl rfl Try.sizeOf102 rfl rfl rfl (FC.oneR _) (by show 0 + 11 ≤ 11; decide) ?_
                  refine cells_eq (show Sep.splice _ 0 (g).cR = (g).cR from Sep.splice_all rfl) ?_
                  refine l_nil ?_
                  refine k_then ?_
                  refine c_seq ?_
                  refine c_seq ?_
                  refine c_region _ rfl ?_
                  refine l_q rfl (q_move rfl rfl) rfl rfl ?_
                  refine l_q rfl (q_lss rfl rfl rfl) rfl rfl ?_
                  refine l_nil ?_
                  refine k_then ?_
                  have hNf : NIn (nrow nv :: q59.G) R1.fl := hN1.more (fun e he => List.mem_cons_of_mem _ he)
                  refine Pre.setB (t := 153) (c := true) rfl (rfl) ?_
                  refine c_true rfl ?_
                  refine c_seq ?_
                  refine c_region _ rfl ?_
                  refine l_q rfl (q_move rfl rfl) rfl rfl ?_
                  refine l_q rfl (q_eql rfl rfl rfl) rfl rfl ?_
                  refine l_q rfl (q_move rfl rfl) rfl rfl ?_
                  refine Pre.setB (t := 156) (c := true) rfl (by first | rfl | exact decide_eq_true ⟨rfl, rfl⟩) ?_
                  refine l_q rfl (q_loadCAgg (nv0.c) rfl Try.isAgg37 Try.sizeOf37 rfl (fun _ h => h.at 1 rfl) (rfl) (rfl)) rfl rfl ?_
                  refine l_q rfl (q_build (nv0.c) rfl rfl (fun w => by kernel_rfl)) rfl rfl ?_
                  refine l_e rfl ?_
                  refine e_call_00 (samend_spec nv0 nv0 (by decide)) rfl rfl rfl Try.call34 rfl (fun _ _ => ⟨rd_nil _, rd_nil _⟩) ?_
                  intro _ _
                  refine l_q rfl (q_pick_t rfl rfl rfl) rfl rfl ?_
                  refine l_q rfl (q_move rfl rfl) rfl rfl ?_
                  refine Pre.setB (t := 161) (c := true) rfl (by first | rfl | exact decide_eq_true ⟨rfl, rfl⟩) ?_
                  refine l_q rfl (q_move rfl rfl) rfl rfl ?_
                  refine l_q rfl (q_not rfl rfl) rfl rfl ?_
                  refine l_q rfl (q_pick_t rfl rfl rfl) rfl rfl ?_
                  refine l_q rfl (q_move rfl rfl) rfl rfl ?_
                  refine Pre.setB (t := 165) (c := true) rfl (by first | rfl | exact decide_eq_true ⟨rfl, rfl⟩) ?_
                  refine l_q rfl (q_move rfl rfl) rfl rfl ?_
                  refine l_q rfl (q_not rfl rfl) rfl rfl ?_
                  refine l_q rfl (q_pick_t rfl rfl rfl) rfl rfl ?_
                  refine l_q rfl (q_assign rfl rfl) rfl rfl ?_
                  refine l_nil ?_
                  refine k_then ?_
                  refine c_ret ?_
                  refine k_then_ret ?_
                  refine drop0 ?_
                  refine drop0 ?_
                  refine drop0 ?_
                  refine drop0 ?_
                  refine r_one rfl rfl ?_
                  exact fun _ h => ⟨((⟨q59.S, q59.M, nrow nv :: q59.G⟩ : Q), R1), congrArg (fun z => Ending.returned (Value.bool z)) (rfl), ⟨⟨(hk62.mono (Nat.le_succ B) hB).rel, (hk62.mono (Nat.le_succ B) hB).ok, (hk62.mono (Nat.le_succ B) hB).nin.more (fun e he => List.mem_cons_of_mem _ he)⟩, by show RelR R1 q59.M; rw [hm61]; exact hR1, hNf⟩, by
                      show St _ _ (Q.H bc (⟨q59.S, q59.M, nrow nv :: q59.G⟩ : Q) ++ RS.H br R1 q59.M) _
                      rw [hm61]; exact h.perm perm_fin⟩
                · obtain ⟨yy, hyy, hy2, hy0⟩ := sw_y hO hs
                  have hev : q.M.evict.1 = some yy := congrArg Prod.fst (evict_some hs hyy)
                  have hsp : swP q.M.can q.M.rfs q.M.hand = (k : Int) := (sw_some hs).1
                  refine l_e rfl ?_
                  refine e_callHF [_, _, _] (RS.H br R q.M) (qevict hq) rfl rfl rfl Try.call20 rfl (fun _ _ => trivial) ?_
                  rintro ⟨q67, en68⟩ ⟨hm69_, hg74, hk70, hi72, hx71⟩
                  refine Pre.world (St _ _ (_ :: _ :: _ :: (Q.H bc q67 ++ (RS.H br R q.M)))) (fun _ h => h) ?_
                  dsimp only at hm69_ hk70 hi72 hx71 hg74
                  rw [← hg74] at hi72
                  have hm69 : q67.M = q.M.evict.2 := by rw [hm69_, (rfl : q.M = q.M)]
                  have he73 : q.M.evict.1 = (some yy) := by rw [(rfl : q.M = q.M)]; exact hev
                  rw [he73] at hx71
                  refine Pre.setV (t := 142) (c := evV (some yy) en68) rfl (by rw [he73]) ?_
                  refine l_q rfl (q_move rfl rfl) rfl rfl ?_
                  refine l_q rfl (q_extract rfl rfl rfl) rfl rfl ?_
                  refine l_q rfl (q_extract rfl rfl rfl) rfl rfl ?_
                  refine l_q rfl (q_extract rfl rfl rfl) rfl rfl ?_
                  refine l_q rfl (q_extract rfl rfl rfl) rfl rfl ?_
                  refine l_e rfl ?_
                  refine e_alloc rfl rfl rfl Try.zeroValue37 ?_
                  intro bx
                  refine cells_eq (show _ = nv0.c from rfl) ?_
                  refine l_q rfl (q_assign rfl rfl) rfl rfl ?_
                  refine l_e rfl ?_
                  refine e_storeAgg rfl rfl Try.sizeOf37 rfl rfl rfl (NV.one _) (by show 0 + 5 ≤ 5; decide) ?_
                  refine cells_eq (show Sep.splice _ 0 (en68).c = (en68).c from Sep.splice_all rfl) ?_
                  refine l_q rfl (q_assign rfl rfl) rfl rfl ?_
                  refine l_q rfl (q_assign rfl rfl) rfl rfl ?_
                  refine l_nil ?_
                  refine k_then ?_
                  refine c_seq ?_
                  refine c_region _ rfl ?_
                  refine l_q rfl (q_move rfl rfl) rfl rfl ?_
                  refine swap4 (Q.H bc q67) (RS.H br R q.M) ?_
                  refine l_e rfl ?_
                  refine e_callHF [_, _, _, _] (Q.H bc q67) (revict_spec hR hO) rfl rfl rfl Try.call59 rfl (fun _ _ => trivial) ?_
                  rintro ⟨R1, g⟩ ⟨hR1, hNg, hvg⟩
                  refine Pre.world (St _ _ (_ :: _ :: _ :: _ :: (RS.H br R1 q.M.evict.2 ++ (Q.H bc q67)))) (fun _ h => h) ?_
                  dsimp only at hR1 hNg hvg
                  refine Pre.setV (t := 149) (c := .tuple #[.int .i64 (k : Int), .agg g.cR.toArray]) rfl (by rw [hsp]) ?_
                  refine l_q rfl (q_move rfl rfl) rfl rfl ?_
                  refine l_q rfl (q_extract rfl rfl rfl) rfl rfl ?_
                  refine l_q rfl (q_extract rfl rfl rfl) rfl rfl ?_
                  obtain ⟨hN1, hgn⟩ := hNg q67.G (hN.more (fun e he => (by rw [hg74]; exact fun _ x => x : ∀ e ∈ q.G, e ∈ q67.G) e he))
                  refine l_e rfl ?_
                  refine e_alloc rfl rfl rfl Try.zeroValue102 ?_
                  intro bf
                  refine cells_eq (show _ = f00.cR from rfl) ?_
                  refine l_q rfl (q_assign rfl rfl) rfl rfl ?_
                  refine l_e rfl ?_
                  refine e_storeAgg rfl rfl Try.sizeOf102 rfl rfl rfl (FC.oneR _) (by show 0 + 11 ≤ 11; decide) ?_
                  refine cells_eq (show Sep.splice _ 0 (g).cR = (g).cR from Sep.splice_all rfl) ?_
                  refine l_nil ?_
                  refine k_then ?_
                  refine c_seq ?_
                  refine c_seq ?_
                  refine c_region _ rfl ?_
                  refine l_q rfl (q_move rfl rfl) rfl rfl ?_
                  refine l_q rfl (q_lss rfl rfl rfl) rfl rfl ?_
                  refine l_nil ?_
                  refine k_then ?_
                  have hNf : NIn (nrow nv :: q67.G) R1.fl := hN1.more (fun e he => List.mem_cons_of_mem _ he)
                  refine Pre.setB (t := 153) (c := false) rfl (decide_eq_false (by omega)) ?_
                  refine c_false rfl ?_
                  refine c_skip ?_
                  refine k_then ?_
                  refine c_seq ?_
                  refine c_region _ rfl ?_
                  refine l_q rfl (q_move rfl rfl) rfl rfl ?_
                  refine l_q rfl (q_move rfl rfl) rfl rfl ?_
                  have hgy := hvg yy hev
                  obtain ⟨hel, hes⟩ := hx71 yy rfl
                  have hg1 : g.blk = yy.blk := congrArg Vw.blk hgy
                  have hg2 : g.dirty = yy.dirty := congrArg Vw.dirty hgy
                  have hg3 : g.nv.leaf = yy.leaf := congrArg Vw.leaf hgy
                  have hg4 : g.nv.l = yy.es := congrArg Vw.es hgy
                  have hyl : yy.es.length ≤ 1000 := hO.es yy (List.mem_of_getElem? hyy)
                  refine Pre.setB (t := 170) (c := true) rfl (by first | rfl | exact decide_eq_true hg1.symm | exact decide_eq_true ⟨by rw [hel, hg3], by rw [hes, hg4]⟩) ?_
                  refine l_q rfl (q_move rfl rfl) rfl rfl ?_
                  refine l_q rfl (q_fieldAddr rfl Try.underlying102 rfl Try.sizeOf3 rfl rfl) rfl rfl ?_
                  refine l_q rfl (q_loadC rfl Try.isAgg3 rfl (fun _ h => h.at 0 rfl) rfl) rfl rfl ?_
                  refine l_q rfl (q_eql rfl rfl rfl) rfl rfl ?_
                  refine l_q rfl (q_pick_t rfl rfl rfl) rfl rfl ?_
                  refine l_q rfl (q_move rfl rfl) rfl rfl ?_
                  refine Pre.setB (t := 176) (c := true) rfl (by first | rfl | exact decide_eq_true hg1.symm | exact decide_eq_true ⟨by rw [hel, hg3], by rw [hes, hg4]⟩) ?_
                  refine l_q rfl (q_loadCAgg (en68.c) rfl Try.isAgg37 Try.sizeOf37 rfl (fun _ h => h.at 1 rfl) (rfl) (rfl)) rfl rfl ?_
                  refine l_q rfl (q_fieldAddr rfl Try.underlying102 rfl Try.sizeOf37 rfl rfl) rfl rfl ?_
                  refine l_q rfl (q_loadCAgg (g.nv.c) rfl Try.isAgg37 Try.sizeOf37 rfl (fun _ h => h.at 0 rfl) (nodeR_part _) (rfl)) rfl rfl ?_
                  refine l_e rfl ?_
                  refine e_call_00 (samend_spec en68 g.nv (by rw [hes]; omega)) rfl rfl rfl Try.call34 rfl (fun _ h => ⟨rdn h hi72 (fun _ he => List.mem_cons_of_mem _ (List.mem_cons_of_mem _ (List.mem_cons_of_mem _ (List.mem_cons_of_mem _ (List.mem_cons_of_mem _ (List.mem_append_right _ (List.mem_append_right _ he))))))), rdn h hgn (fun _ he => List.mem_cons_of_mem _ (List.mem_cons_of_mem _ (List.mem_cons_of_mem _ (List.mem_cons_of_mem _ (List.mem_cons_of_mem _ (List.mem_append_right _ (List.mem_append_right _ he)))))))⟩) ?_
                  intro _ _
                  refine l_q rfl (q_pick_t rfl rfl rfl) rfl rfl ?_
                  refine l_q rfl (q_move rfl rfl) rfl rfl ?_
                  refine Pre.setB (t := 182) (c := true) rfl (by first | rfl | exact decide_eq_true hg1.symm | exact decide_eq_true ⟨by rw [hel, hg3], by rw [hes, hg4]⟩) ?_
                  refine l_q rfl (q_move rfl rfl) rfl rfl ?_
                  refine l_q rfl (q_fieldAddr rfl Try.underlying102 rfl Try.sizeOf4 rfl rfl) rfl rfl ?_
                  refine l_q rfl (q_loadC rfl Try.isAgg4 rfl (fun _ h => h.at 0 rfl) rfl) rfl rfl ?_
                  refine l_q rfl (q_eqb rfl Try.underlying4 rfl rfl) rfl rfl ?_
                  refine l_q rfl (q_pick_t rfl rfl rfl) rfl rfl ?_
                  refine l_q rfl (q_assign rfl rfl) rfl rfl ?_
                  refine l_nil ?_
                  refine k_then ?_
                  refine c_ret ?_
                  refine drop0 ?_
                  refine drop0 ?_
                  refine drop0 ?_
                  refine drop0 ?_
                  refine r_one rfl rfl ?_
                  exact fun _ h => ⟨((⟨q67.S, q67.M, nrow nv :: q67.G⟩ : Q), R1), congrArg (fun z => Ending.returned (Value.bool z)) (by rw [hg2]; exact beq_self_eq_true _), ⟨⟨(hk70.mono (Nat.le_succ B) hB).rel, (hk70.mono (Nat.le_succ B) hB).ok, (hk70.mono (Nat.le_succ B) hB).nin.more (fun e he => List.mem_cons_of_mem _ he)⟩, by show RelR R1 q67.M; rw [hm69]; exact hR1, hNf⟩, by
                      show St _ _ (Q.H bc (⟨q67.S, q67.M, nrow nv :: q67.G⟩ : Q) ++ RS.H br R1 q67.M) _
                      rw [hm69]; exact h.perm perm_fin⟩
theorem qframes3 {bc : Nat} {q : Q} {B : Nat} (h : q.Ok B) : Con Try.prog 16 [.pointer (some ⟨bc, 0, none⟩)] (fun _ => True) (q.H bc) (fun b : Value × List FC × Q => b.1) (fun b => b.2.1.map vw = q.M.fr ∧ (∀ f ∈ b.2.1, nrow f.nv ∈ b.2.2.G) ∧ b.2.2.M = q.M ∧ b.2.2.Ok B ∧ ∀ e ∈ q.G, e ∈ b.2.2.G) (fun b => rowE b.1 44 FC.encA b.2.1 :: b.2.2.H bc) :=
  Con.pack (q.H bc) (frames_spec h.rel h.ok) (List.Perm.refl _) (fun w _ hh => ⟨cr_hp hh (fun e he => List.mem_append_left _ he), nr_hp h.nin hh (fun e he => List.mem_append_right _ he)⟩) (fun b => (b.1, b.2.1, (⟨q.S, q.M, q.G ++ b.2.2⟩ : Q))) (fun b hp => ⟨rfl, ⟨hp.1, fun f hf => List.mem_append_right _ (hp.2 f hf), rfl, ⟨h.rel, h.ok, h.nin.more (fun e he => List.mem_append_left _ he)⟩, fun e he => List.mem_append_left _ he⟩, [], (List.Perm.cons _ (List.perm_append_comm.trans (by show ((q.S.H bc ++ q.G) ++ b.2.2).Perm (q.S.H bc ++ (q.G ++ b.2.2)); rw [List.append_assoc]))).trans (perm_nil _)⟩)
set_option maxRecDepth 100000 in
set_option maxHeartbeats 1000000 in
theorem frames_law {bc br : Nat} {q : Q} {R : RS} {B : Nat} (h : Both q R B) : Con Try.prog 31 [.pointer (some ⟨bc, 0, none⟩), .pointer (some ⟨br, 0, none⟩)] (fun _ => True) (Q.H bc q ++ RS.H br R q.M) (fun _ : Q => .bool true) (fun r => Both r R B ∧ r.M = q.M) (fun r => Q.H bc r ++ RS.H br R r.M) := by
  intro w hE hH
  have hq := h.ok
  have hR := h.rel
  have hN := h.nin
  have hO := hq.ok
  have hlB := hO.lB
  have hB9 := hO.B9
  have h64 := hO.n64
  refine enter (n := 86) (vs := [.pointer (some ⟨bc, 0, none⟩), .pointer (some ⟨br, 0, none⟩)]) (St w (dom (Q.H bc q ++ RS.H br R q.M)) (Q.H bc q ++ RS.H br R q.M)) Try.func31 rfl rfl rfl (St.init hH) ?_
  refine c_seq ?_
  refine c_region _ rfl ?_
  refine l_q rfl (q_assign rfl rfl) rfl rfl ?_
  refine l_nil ?_
  refine k_then ?_
  refine c_seq ?_
  refine c_region _ rfl ?_
  refine l_q rfl (q_move rfl rfl) rfl rfl ?_
  refine l_e rfl ?_
  refine e_callHF [] (RS.H br R q.M) (qframes3 hq) rfl rfl rfl Try.call16 rfl (fun _ _ => trivial) ?_
  rintro ⟨va, fl, q1⟩ ⟨hfa, hna, hM1, hq1, hG1⟩
  refine Pre.world (St _ _ (rowE va 44 FC.encA fl :: (Q.H bc q1 ++ (RS.H br R q.M)))) (fun _ h => h) ?_
  dsimp only at hfa hna hM1 hq1 hG1
  refine l_q rfl (q_move rfl rfl) rfl rfl ?_
  have hN1 := hN.more hG1
  refine l_e rfl ?_
  refine e_call_01 (rframes_spec hR hO) rfl rfl rfl Try.call60 rfl (fun _ h => RC.ofm (R := R) (M := q.M) h (fun e he => List.mem_cons_of_mem _ (List.mem_append_right _ he))) ?_
  intro vb _
  refine l_q rfl (q_assign rfl rfl) rfl rfl ?_
  refine l_q rfl (q_assign rfl rfl) rfl rfl ?_
  refine l_nil ?_
  refine k_then ?_
  refine c_seq ?_
  refine c_seq ?_
  refine c_region _ rfl ?_
  refine l_q rfl (q_move rfl rfl) rfl rfl ?_
  refine l_q rfl (q_lenV rfl Try.underlying39 rfl (fun _ h => h.rd 1 rfl)) rfl rfl ?_
  refine l_q rfl (q_move rfl rfl) rfl rfl ?_
  refine l_q rfl (q_lenV rfl Try.underlying39 rfl (fun _ h => h.rd 0 rfl)) rfl rfl ?_
  refine l_q rfl (q_neq rfl rfl rfl) rfl rfl ?_
  refine l_q rfl (q_move rfl rfl) rfl rfl ?_
  refine pull1 ?_
  have hla : fl.length = q.M.fr.length := frs_len hfa rfl
  have hlb := hR.len
  refine Pre.setB (t := 18) (c := false) rfl (by simp [hla, hlb]) ?_
  refine l_q rfl (q_move rfl rfl) rfl rfl ?_
  refine l_e rfl ?_
  refine e_callHF [_, _] (RS.H br R q.M) (qfree hq1 ) rfl rfl rfl Try.call18 rfl (fun _ _ => trivial) ?_
  rintro _ _
  refine Pre.world (St _ _ (_ :: _ :: (Q.H bc q1 ++ (RS.H br R q.M)))) (fun _ h => h) ?_
  refine Pre.setV (t := 20) (c := .int .i64 (q.M.free : Int)) rfl (by rw [hM1]) ?_
  refine l_q rfl (q_move rfl rfl) rfl rfl ?_
  refine l_e rfl ?_
  refine e_call_00 (rfreen_spec hR hO) rfl rfl rfl Try.call61 rfl (fun _ h => RC.ofm (R := R) (M := q.M) h (fun e he => List.mem_cons_of_mem _ (List.mem_cons_of_mem _ (List.mem_append_right _ he)))) ?_
  intro _ _
  refine l_q rfl (q_neq rfl rfl rfl) rfl rfl ?_
  refine l_q rfl (q_pick_f rfl rfl rfl) rfl rfl ?_
  refine l_q rfl (q_move rfl rfl) rfl rfl ?_
  refine Pre.setB (t := 25) (c := false) rfl (by simp) ?_
  refine l_q rfl (q_move rfl rfl) rfl rfl ?_
  refine l_e rfl ?_
  refine e_callHF [_, _] (RS.H br R q.M) (qline hq1) rfl rfl rfl Try.call23 rfl (fun _ _ => trivial) ?_
  rintro v75 _
  refine Pre.world (St _ _ (_ :: _ :: _ :: (Q.H bc q1 ++ (RS.H br R q.M)))) (fun _ h => h) ?_
  refine pull2 ?_
  refine row_eq (show _ = (q.M.line.map Prod.fst) from by rw [hM1]; try rfl) ?_
  refine l_q rfl (q_move rfl rfl) rfl rfl ?_
  refine l_e rfl ?_
  refine e_call_01 (rline_spec hR hO) rfl rfl rfl Try.call62 rfl (fun _ h => RC.ofm (R := R) (M := q.M) h (fun e he => List.mem_cons_of_mem _ (List.mem_cons_of_mem _ (List.mem_cons_of_mem _ (List.mem_append_right _ he))))) ?_
  intro vlb _
  refine l_e rfl ?_
  refine e_call_00 (sameints_spec (q.M.line.map Prod.fst) (q.M.line.map Prod.fst) (by rw [List.length_map]; omega)) rfl rfl rfl Try.call17 rfl (fun _ h => ⟨h.rd 1 rfl, h.rd 0 rfl⟩) ?_
  intro _ _
  refine l_q rfl (q_not rfl rfl) rfl rfl ?_
  refine l_q rfl (q_pick_f rfl rfl rfl) rfl rfl ?_
  refine l_nil ?_
  refine k_then ?_
  refine Pre.setB (t := 32) (c := false) rfl (by simp) ?_
  refine c_false rfl ?_
  refine c_skip ?_
  refine k_then ?_
  refine c_seq ?_
  refine c_seq ?_
  refine c_region _ rfl ?_
  refine l_q rfl (q_assign rfl rfl) rfl rfl ?_
  refine l_nil ?_
  refine k_then ?_
  refine c_block ?_
  refine pull1 ?_
  refine drop0 ?_
  refine drop0 ?_
  refine c_loop1 (fun (i : Nat) => [(0, .pointer (some ⟨bc, 0, none⟩)), (1, .pointer (some ⟨br, 0, none⟩)), (5, va), (6, vb), (7, .int .i64 (i : Int))]) (fun (i : Nat) => St w (dom (Q.H bc q ++ RS.H br R q.M)) (rowE va 44 FC.encA fl :: rowE vb 44 FC.encA R.fl :: (Q.H bc q1 ++ RS.H br R q.M))) (fun (i : Nat) => i ≤ fl.length) (fun (i : Nat) => fl.length - i) (0) (Nat.zero_le _) (Sub.cons rfl (Sub.cons rfl (Sub.cons rfl (Sub.cons rfl (Sub.cons rfl (Sub.nil)))))) (fun _ h => h) ?_
  intro i hi
  refine c_seq ?_
  refine c_seq ?_
  refine c_region _ rfl ?_
  refine l_q rfl (q_move rfl rfl) rfl rfl ?_
  refine l_q rfl (q_move rfl rfl) rfl rfl ?_
  refine l_q rfl (q_lenV rfl Try.underlying39 rfl (fun _ h => h.rd 0 rfl)) rfl rfl ?_
  refine l_q rfl (q_lss rfl rfl rfl) rfl rfl ?_
  refine l_nil ?_
  refine k_then ?_
  refine Pre.caseB 36 rfl (fun h1 => ?_) (fun h1 => ?_)
  · try simp only [decide_eq_true_eq, decide_eq_false_iff_not, Bool.not_eq_true', Bool.not_eq_false'] at h1
    obtain ⟨f, hfi⟩ : ∃ f, fl[i]? = some f := ⟨_, List.getElem?_eq_getElem (by omega)⟩
    obtain ⟨g, hgi⟩ : ∃ g, R.fl[i]? = some g := ⟨_, List.getElem?_eq_getElem (by omega)⟩
    have hvv := vw_both hfa hR hfi hgi
    have hfm := List.mem_of_getElem? hfi
    have hgm := List.mem_of_getElem? hgi
    have hes : f.nv.l.length ≤ 1000 := hO.es (vw f) (List.mem_of_getElem? (frs_at hfa hfi))
    refine c_true rfl ?_
    refine c_skip ?_
    refine k_then ?_
    refine c_seq ?_
    refine c_block ?_
    refine c_seq ?_
    refine c_draw [(0, some true), (1, some true), (2, some true), (3, some true), (4, some true), (5, some true), (6, some true), (7, some true), (8, some false), (9, some true), (10, some true), (11, some true), (12, some true), (13, some true), (14, some true), (15, some true), (16, some true), (17, some true), (18, some true), (19, some true), (20, some true), (21, some true), (22, some true), (23, some true), (24, some true), (25, some true), (26, some true), (27, some true), (28, some true), (29, some true), (30, some true), (31, some true), (32, some true), (33, some true), (34, some true), (35, some true)] [] [(_, some true), (_, some true), (_, some true), (_, some true), (_, some true), (_, some true), (_, some true), (_, some true), (_, some false), (_, some true), (_, some true), (_, some true), (_, some true), (_, some true), (_, some true), (_, some true), (_, some true), (_, some true), (_, some true), (_, some true), (_, some true), (_, some true), (_, some true), (_, some true), (_, some true), (_, some true), (_, some true), (_, some true), (_, some true), (_, some true), (_, some true), (_, some true), (_, some true), (_, some true), (_, some true), (_, some true)] (fun w2 => RdV w2 va FC.encA fl ∧ RdV w2 vb FC.encA R.fl) (blind_then (blind_block (blind_then (blind_then (blind_block (blind_then blind_body)))))) rfl (by kernel_rfl) (by kernel_rfl) rfl rfl rfl (by kernel_rfl) St.drawn (fun _ h => ⟨h.rd 0 rfl, h.rd 1 rfl⟩) ?_
    refine d_q rfl (q_move rfl rfl) rfl rfl ?_
    refine d_q rfl (q_move rfl rfl) rfl rfl ?_
    refine d_q rfl (q_indexV i rfl Try.underlying39 Try.sizeOf44 rfl (fun _ h => h.1) rfl rfl (by omega)) rfl rfl ?_
    refine d_q rfl (q_loadVAgg i rfl Try.isAgg44 Try.sizeOf44 rfl rfl (fun _ h => h.1) hfi) rfl rfl ?_
    refine d_q rfl (q_move rfl rfl) rfl rfl ?_
    refine d_q rfl (q_move rfl rfl) rfl rfl ?_
    refine d_q rfl (q_indexV i rfl Try.underlying39 Try.sizeOf44 rfl (fun _ h => h.2) rfl rfl (by omega)) rfl rfl ?_
    refine d_q rfl (q_loadVAgg i rfl Try.isAgg44 Try.sizeOf44 rfl rfl (fun _ h => h.2) hgi) rfl rfl ?_
    refine d_e rfl ?_
    refine e_call_00 (samefr_spec f g (by omega)) rfl rfl rfl Try.call63 rfl (fun _ h => ⟨rdn h (.inr (hna f hfm)) (fun _ he => List.mem_cons_of_mem _ (List.mem_cons_of_mem _ (List.mem_append_left _ (List.mem_append_right _ he)))), rdn h (hN1 g hgm) (fun _ he => List.mem_cons_of_mem _ (List.mem_cons_of_mem _ (List.mem_append_left _ (List.mem_append_right _ he))))⟩) ?_
    intro _ _
    rw [sf_vw hvv]
    refine d_held (fun _ h => ⟨h.rd 0 rfl, h.rd 1 rfl⟩) ?_
    refine d_q rfl (q_not rfl rfl) rfl rfl ?_
    refine d_q rfl (q_move rfl rfl) rfl rfl ?_
    refine Pre.setB (t := 49) (c := false) rfl (rfl) ?_
    refine d_q rfl (q_move rfl rfl) rfl rfl ?_
    refine d_q rfl (q_move rfl rfl) rfl rfl ?_
    refine d_q rfl (q_indexV i rfl Try.underlying39 Try.sizeOf44 rfl (fun _ h => h.1) rfl rfl (by omega)) rfl rfl ?_
    refine d_q rfl (q_fieldAddr rfl Try.underlying44 rfl Try.sizeOf3 rfl rfl) rfl rfl ?_
    refine d_q rfl (q_loadV i 11 rfl Try.isAgg3 rfl rfl (fun _ h => h.1) hfi rfl) rfl rfl ?_
    refine d_q rfl (q_neq rfl rfl rfl) rfl rfl ?_
    refine d_q rfl (q_pick_f rfl rfl rfl) rfl rfl ?_
    refine d_q rfl (q_move rfl rfl) rfl rfl ?_
    refine Pre.setB (t := 57) (c := false) rfl (rfl) ?_
    refine d_q rfl (q_move rfl rfl) rfl rfl ?_
    refine d_q rfl (q_move rfl rfl) rfl rfl ?_
    refine d_q rfl (q_indexV i rfl Try.underlying39 Try.sizeOf44 rfl (fun _ h => h.1) rfl rfl (by omega)) rfl rfl ?_
    refine d_q rfl (q_fieldAddr rfl Try.underlying44 rfl Try.sizeOf28 rfl rfl) rfl rfl ?_
    refine d_q rfl (q_loadV i 10 rfl Try.isAgg28 rfl rfl (fun _ h => h.1) hfi rfl) rfl rfl ?_
    refine d_q rfl (q_len rfl Try.underlying28 rfl) rfl rfl ?_
    refine d_q rfl (q_gtr rfl rfl rfl) rfl rfl ?_
    refine d_q rfl (q_pick_f rfl rfl rfl) rfl rfl ?_
    refine d_q rfl (q_move rfl rfl) rfl rfl ?_
    refine Pre.setB (t := 66) (c := false) rfl (rfl) ?_
    refine d_q rfl (q_move rfl rfl) rfl rfl ?_
    refine d_q rfl (q_move rfl rfl) rfl rfl ?_
    refine d_q rfl (q_indexV i rfl Try.underlying39 Try.sizeOf44 rfl (fun _ h => h.1) rfl rfl (by omega)) rfl rfl ?_
    refine d_q rfl (q_fieldAddr rfl Try.underlying44 rfl Try.sizeOf42 rfl rfl) rfl rfl ?_
    refine d_q rfl (q_loadV i 12 rfl Try.isAgg42 rfl rfl (fun _ h => h.1) hfi rfl) rfl rfl ?_
    refine d_q rfl (q_len rfl Try.underlying42 rfl) rfl rfl ?_
    refine d_q rfl (q_gtr rfl rfl rfl) rfl rfl ?_
    refine d_q rfl (q_pick_f rfl rfl rfl) rfl rfl ?_
    refine d_nil ?_
    refine k_then ?_
    refine Pre.setB (t := 74) (c := false) rfl (rfl) ?_
    refine c_false rfl ?_
    refine c_skip ?_
    refine k_block ?_
    refine k_then ?_
    refine c_region _ rfl ?_
    refine l_q rfl (q_move rfl rfl) rfl rfl ?_
    refine l_q rfl (q_inc rfl rfl rfl (by omega)) rfl rfl ?_
    refine l_q rfl (q_assign rfl rfl) rfl rfl ?_
    refine l_nil ?_
    exact k_round (i + 1) (by omega) (by omega) (Sub.cons rfl (Sub.cons rfl (Sub.cons rfl (Sub.cons rfl (Sub.cons rfl (Sub.nil)))))) (fun _ h => h)
  · try simp only [decide_eq_true_eq, decide_eq_false_iff_not, Bool.not_eq_true', Bool.not_eq_false'] at h1
    refine c_false rfl ?_
    refine c_exit ?_
    refine k_then_exit ?_
    refine k_then_exit ?_
    refine k_block_exit ?_
    refine k_then ?_
    refine c_seq ?_
    refine c_seq ?_
    refine c_region _ rfl ?_
    refine l_q rfl (q_assign rfl rfl) rfl rfl ?_
    refine l_nil ?_
    refine k_then ?_
    refine c_block ?_
    refine drop0 ?_
    refine drop0 ?_
    refine c_loop1 (fun (t : Int) => [(0, .pointer (some ⟨bc, 0, none⟩)), (1, .pointer (some ⟨br, 0, none⟩)), (8, .int .i64 t)]) (fun (t : Int) => St w (dom (Q.H bc q ++ RS.H br R q.M)) (Q.H bc q1 ++ RS.H br R q.M)) (fun (t : Int) => -1 ≤ t ∧ t ≤ 9) (fun (t : Int) => (9 - t).toNat) (-1) ⟨by decide, by decide⟩ (Sub.cons rfl (Sub.cons rfl (Sub.cons rfl (Sub.nil)))) (fun _ h => h) ?_
    intro t ht
    refine c_seq ?_
    refine c_seq ?_
    refine c_region _ rfl ?_
    refine l_q rfl (q_move rfl rfl) rfl rfl ?_
    refine l_q rfl (q_leq rfl rfl rfl) rfl rfl ?_
    refine l_nil ?_
    refine k_then ?_
    refine Pre.caseB 76 rfl (fun h2 => ?_) (fun h2 => ?_)
    · try simp only [decide_eq_true_eq, decide_eq_false_iff_not, Bool.not_eq_true', Bool.not_eq_false'] at h2
      refine c_true rfl ?_
      refine c_skip ?_
      refine k_then ?_
      refine c_seq ?_
      refine c_block ?_
      refine c_seq ?_
      refine c_region _ rfl ?_
      refine l_q rfl (q_move rfl rfl) rfl rfl ?_
      refine l_q rfl (q_move rfl rfl) rfl rfl ?_
      refine l_e rfl ?_
      refine e_callHF [] (RS.H br R q.M) (qmay hq1 t) rfl rfl rfl Try.call13 rfl (fun _ _ => trivial) ?_
      rintro _ _
      refine Pre.world (St _ _ ((Q.H bc q1 ++ (RS.H br R q.M)))) (fun _ h => h) ?_
      refine Pre.setV (t := 81) (c := .bool (q.M.may t)) rfl (by rw [hM1]) ?_
      refine l_q rfl (q_move rfl rfl) rfl rfl ?_
      refine l_q rfl (q_move rfl rfl) rfl rfl ?_
      refine l_e rfl ?_
      refine e_call_00 (rmay_spec hR hO t) rfl rfl rfl Try.call64 rfl (fun _ h => RC.ofm (R := R) (M := q.M) h (fun e he => List.mem_append_right _ he)) ?_
      intro _ _
      refine l_q rfl (q_neb rfl Try.underlying4 rfl rfl) rfl rfl ?_
      refine l_nil ?_
      refine k_then ?_
      refine Pre.setB (t := 85) (c := false) rfl (by simp) ?_
      refine c_false rfl ?_
      refine c_skip ?_
      refine k_block ?_
      refine k_then ?_
      refine c_region _ rfl ?_
      refine l_q rfl (q_move rfl rfl) rfl rfl ?_
      refine l_q rfl (q_add64 rfl rfl rfl (by omega)) rfl rfl ?_
      refine l_q rfl (q_assign rfl rfl) rfl rfl ?_
      refine l_nil ?_
      exact k_round (t + 1) (by omega) ⟨by omega, by omega⟩ (Sub.cons rfl (Sub.cons rfl (Sub.cons rfl (Sub.nil)))) (fun _ h => h)
    · try simp only [decide_eq_true_eq, decide_eq_false_iff_not, Bool.not_eq_true', Bool.not_eq_false'] at h2
      refine c_false rfl ?_
      refine c_exit ?_
      refine k_then_exit ?_
      refine k_then_exit ?_
      refine k_block_exit ?_
      refine k_then ?_
      refine c_seq ?_
      refine c_region _ rfl ?_
      refine l_q rfl (q_assign rfl rfl) rfl rfl ?_
      refine l_nil ?_
      refine k_then ?_
      refine c_ret ?_
      refine r_one rfl rfl ?_
      exact fun _ h => ⟨q1, rfl, ⟨⟨hq1, by rw [hM1]; exact hR, hN1⟩, hM1⟩, by
          show St _ _ (Q.H bc q1 ++ RS.H br R q1.M) _
          rw [hM1]; exact h⟩
end Go.Proofs.Ytpfbagkjhchojaa
