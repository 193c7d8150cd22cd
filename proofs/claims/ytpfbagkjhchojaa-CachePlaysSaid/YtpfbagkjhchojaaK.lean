/- cache: New, Name -/
import Derived.Test.YtpfbagkjhchojaaJ
set_option linter.unusedVariables false
set_option linter.unusedSimpArgs false
namespace Go.Proofs.Ytpfbagkjhchojaa
open Go.Sep Go.RowKit

section
variable {n : Nat} {L : Env} {F : Act → World → Prop} {w0 : World} {D : List Nat} {H : List Ent}
theorem pull7 {xa xb xc xd xe xf xg xh : Ent} (k : Pre n L (St w0 D (xh :: xa :: xb :: xc :: xd :: xe :: xf :: xg :: H)) F) : Pre n L (St w0 D (xa :: xb :: xc :: xd :: xe :: xf :: xg :: xh :: H)) F := k.world _ (fun w s => s.perm (List.perm_middle (l₁ := [xa, xb, xc, xd, xe, xf, xg]) (l₂ := H)))
theorem pull8 {xa xb xc xd xe xf xg xh xi : Ent} (k : Pre n L (St w0 D (xi :: xa :: xb :: xc :: xd :: xe :: xf :: xg :: xh :: H)) F) : Pre n L (St w0 D (xa :: xb :: xc :: xd :: xe :: xf :: xg :: xh :: xi :: H)) F := k.world _ (fun w s => s.perm (List.perm_middle (l₁ := [xa, xb, xc, xd, xe, xf, xg, xh]) (l₂ := H)))
theorem pull9 {xa xb xc xd xe xf xg xh xi xj : Ent} (k : Pre n L (St w0 D (xj :: xa :: xb :: xc :: xd :: xe :: xf :: xg :: xh :: xi :: H)) F) : Pre n L (St w0 D (xa :: xb :: xc :: xd :: xe :: xf :: xg :: xh :: xi :: xj :: H)) F := k.world _ (fun w s => s.perm (List.perm_middle (l₁ := [xa, xb, xc, xd, xe, xf, xg, xh, xi]) (l₂ := H)))
theorem pull10 {xa xb xc xd xe xf xg xh xi xj xk : Ent} (k : Pre n L (St w0 D (xk :: xa :: xb :: xc :: xd :: xe :: xf :: xg :: xh :: xi :: xj :: H)) F) : Pre n L (St w0 D (xa :: xb :: xc :: xd :: xe :: xf :: xg :: xh :: xi :: xj :: xk :: H)) F := k.world _ (fun w s => s.perm (List.perm_middle (l₁ := [xa, xb, xc, xd, xe, xf, xg, xh, xi, xj]) (l₂ := H)))
theorem pull11 {xa xb xc xd xe xf xg xh xi xj xk xl : Ent} (k : Pre n L (St w0 D (xl :: xa :: xb :: xc :: xd :: xe :: xf :: xg :: xh :: xi :: xj :: xk :: H)) F) : Pre n L (St w0 D (xa :: xb :: xc :: xd :: xe :: xf :: xg :: xh :: xi :: xj :: xk :: xl :: H)) F := k.world _ (fun w s => s.perm (List.perm_middle (l₁ := [xa, xb, xc, xd, xe, xf, xg, xh, xi, xj, xk]) (l₂ := H)))
theorem pull12 {xa xb xc xd xe xf xg xh xi xj xk xl xm : Ent} (k : Pre n L (St w0 D (xm :: xa :: xb :: xc :: xd :: xe :: xf :: xg :: xh :: xi :: xj :: xk :: xl :: H)) F) : Pre n L (St w0 D (xa :: xb :: xc :: xd :: xe :: xf :: xg :: xh :: xi :: xj :: xk :: xl :: xm :: H)) F := k.world _ (fun w s => s.perm (List.perm_middle (l₁ := [xa, xb, xc, xd, xe, xf, xg, xh, xi, xj, xk, xl]) (l₂ := H)))
theorem pull13 {xa xb xc xd xe xf xg xh xi xj xk xl xm xn : Ent} (k : Pre n L (St w0 D (xn :: xa :: xb :: xc :: xd :: xe :: xf :: xg :: xh :: xi :: xj :: xk :: xl :: xm :: H)) F) : Pre n L (St w0 D (xa :: xb :: xc :: xd :: xe :: xf :: xg :: xh :: xi :: xj :: xk :: xl :: xm :: xn :: H)) F := k.world _ (fun w s => s.perm (List.perm_middle (l₁ := [xa, xb, xc, xd, xe, xf, xg, xh, xi, xj, xk, xl, xm]) (l₂ := H)))
theorem pull14 {xa xb xc xd xe xf xg xh xi xj xk xl xm xn xo : Ent} (k : Pre n L (St w0 D (xo :: xa :: xb :: xc :: xd :: xe :: xf :: xg :: xh :: xi :: xj :: xk :: xl :: xm :: xn :: H)) F) : Pre n L (St w0 D (xa :: xb :: xc :: xd :: xe :: xf :: xg :: xh :: xi :: xj :: xk :: xl :: xm :: xn :: xo :: H)) F := k.world _ (fun w s => s.perm (List.perm_middle (l₁ := [xa, xb, xc, xd, xe, xf, xg, xh, xi, xj, xk, xl, xm, xn]) (l₂ := H)))
theorem pull15 {xa xb xc xd xe xf xg xh xi xj xk xl xm xn xo xp : Ent} (k : Pre n L (St w0 D (xp :: xa :: xb :: xc :: xd :: xe :: xf :: xg :: xh :: xi :: xj :: xk :: xl :: xm :: xn :: xo :: H)) F) : Pre n L (St w0 D (xa :: xb :: xc :: xd :: xe :: xf :: xg :: xh :: xi :: xj :: xk :: xl :: xm :: xn :: xo :: xp :: H)) F := k.world _ (fun w s => s.perm (List.perm_middle (l₁ := [xa, xb, xc, xd, xe, xf, xg, xh, xi, xj, xk, xl, xm, xn, xo]) (l₂ := H)))
theorem pull16 {xa xb xc xd xe xf xg xh xi xj xk xl xm xn xo xp xq : Ent} (k : Pre n L (St w0 D (xq :: xa :: xb :: xc :: xd :: xe :: xf :: xg :: xh :: xi :: xj :: xk :: xl :: xm :: xn :: xo :: xp :: H)) F) : Pre n L (St w0 D (xa :: xb :: xc :: xd :: xe :: xf :: xg :: xh :: xi :: xj :: xk :: xl :: xm :: xn :: xo :: xp :: xq :: H)) F := k.world _ (fun w s => s.perm (List.perm_middle (l₁ := [xa, xb, xc, xd, xe, xf, xg, xh, xi, xj, xk, xl, xm, xn, xo, xp]) (l₂ := H)))
theorem pull17 {xa xb xc xd xe xf xg xh xi xj xk xl xm xn xo xp xq xr : Ent} (k : Pre n L (St w0 D (xr :: xa :: xb :: xc :: xd :: xe :: xf :: xg :: xh :: xi :: xj :: xk :: xl :: xm :: xn :: xo :: xp :: xq :: H)) F) : Pre n L (St w0 D (xa :: xb :: xc :: xd :: xe :: xf :: xg :: xh :: xi :: xj :: xk :: xl :: xm :: xn :: xo :: xp :: xq :: xr :: H)) F := k.world _ (fun w s => s.perm (List.perm_middle (l₁ := [xa, xb, xc, xd, xe, xf, xg, xh, xi, xj, xk, xl, xm, xn, xo, xp, xq]) (l₂ := H)))
theorem pull18 {xa xb xc xd xe xf xg xh xi xj xk xl xm xn xo xp xq xr xs : Ent} (k : Pre n L (St w0 D (xs :: xa :: xb :: xc :: xd :: xe :: xf :: xg :: xh :: xi :: xj :: xk :: xl :: xm :: xn :: xo :: xp :: xq :: xr :: H)) F) : Pre n L (St w0 D (xa :: xb :: xc :: xd :: xe :: xf :: xg :: xh :: xi :: xj :: xk :: xl :: xm :: xn :: xo :: xp :: xq :: xr :: xs :: H)) F := k.world _ (fun w s => s.perm (List.perm_middle (l₁ := [xa, xb, xc, xd, xe, xf, xg, xh, xi, xj, xk, xl, xm, xn, xo, xp, xq, xr]) (l₂ := H)))
theorem pull19 {xa xb xc xd xe xf xg xh xi xj xk xl xm xn xo xp xq xr xs xt : Ent} (k : Pre n L (St w0 D (xt :: xa :: xb :: xc :: xd :: xe :: xf :: xg :: xh :: xi :: xj :: xk :: xl :: xm :: xn :: xo :: xp :: xq :: xr :: xs :: H)) F) : Pre n L (St w0 D (xa :: xb :: xc :: xd :: xe :: xf :: xg :: xh :: xi :: xj :: xk :: xl :: xm :: xn :: xo :: xp :: xq :: xr :: xs :: xt :: H)) F := k.world _ (fun w s => s.perm (List.perm_middle (l₁ := [xa, xb, xc, xd, xe, xf, xg, xh, xi, xj, xk, xl, xm, xn, xo, xp, xq, xr, xs]) (l₂ := H)))
end
theorem Rel.zero (vF vL : Value) (bA bL n : Nat) : Rel ⟨vF, List.replicate n fE, bA, [], bL, [], vL, [], 0⟩ (mo0 n) :=
  ⟨by show (List.replicate n fE).map vw = List.replicate n free0; rw [List.map_replicate]; rfl, rfl, rfl, fun b => by
    show none = Option.map _ (fst1 (isB b) (List.replicate n free0))
    rw [fst1_none (fun z hz => by rw [(List.mem_replicate.1 hz).2]; unfold isB free0; simp)]; rfl, fun b => rfl, List.nodup_nil, List.nodup_nil⟩
theorem NIn.zero (G : List Ent) (n : Nat) : NIn G (List.replicate n fE) := fun f hf => by rw [(List.mem_replicate.1 hf).2]; exact .inl ⟨rfl, rfl⟩
theorem rep_snoc {α : Type} (n : Nat) (x : α) : List.replicate n x ++ [x] = List.replicate (n + 1) x := (List.replicate_succ' ..).symm
/-- The fresh struct's cells. -/
def c0 (v : Value) (bA bL : Nat) : List Value := [v, .map (some bA), .map (some bL), nil0, .int .i64 0]

set_option maxRecDepth 100000 in
set_option maxHeartbeats 1000000 in
theorem new_bad (n : Int) (hn : n < 1 ∨ 64 < n) : Con Try.prog 9 [.int .i64 n] (fun _ => True) [] (fun _ : Unit => .tuple #[.pointer none, .int .i64 1]) (fun _ => True) (fun _ => []) := by
  intro w hE hH
  refine enter (n := 30) (vs := [.int .i64 n]) (St w [] []) Try.func9 rfl rfl rfl (St.init hH) ?_
  refine c_seq ?_
  refine c_region _ rfl ?_
  refine l_q rfl (q_assign rfl rfl) rfl rfl ?_
  refine l_q rfl (q_assign rfl rfl) rfl rfl ?_
  refine l_nil ?_
  refine k_then ?_
  refine c_seq ?_
  refine c_seq ?_
  refine c_region _ rfl ?_
  refine l_q rfl (q_move rfl rfl) rfl rfl ?_
  refine l_q rfl (q_lss rfl rfl rfl) rfl rfl ?_
  refine l_q rfl (q_move rfl rfl) rfl rfl ?_
  refine Pre.caseB 7 rfl (fun h1 => ?_) (fun h1 => ?_)
  · try simp only [decide_eq_true_eq, decide_eq_false_iff_not, Bool.not_eq_true', Bool.not_eq_false'] at h1
    refine l_not rfl rfl rfl ?_
    refine l_not rfl rfl rfl ?_
    refine l_q rfl (q_pick_t rfl rfl rfl) rfl rfl ?_
    refine l_nil ?_
    refine k_then ?_
    refine c_true rfl ?_
    refine c_seq ?_
    refine c_region _ rfl ?_
    refine l_q rfl (q_assign rfl rfl) rfl rfl ?_
    refine l_q rfl (q_assign rfl rfl) rfl rfl ?_
    refine l_nil ?_
    refine k_then ?_
    refine c_ret ?_
    refine k_then_ret ?_
    refine r_many (rs := [.tmp 2, .tmp 3]) rfl rfl ?_
    exact fun _ h => ⟨(), rfl, trivial, h⟩
  · try simp only [decide_eq_true_eq, decide_eq_false_iff_not, Bool.not_eq_true', Bool.not_eq_false'] at h1
    refine l_q rfl (q_move rfl rfl) rfl rfl ?_
    refine l_q rfl (q_gtr rfl rfl rfl) rfl rfl ?_
    refine l_q rfl (q_pick_f rfl rfl rfl) rfl rfl ?_
    refine l_nil ?_
    refine k_then ?_
    refine Pre.caseB 10 rfl (fun h2 => ?_) (fun h2 => ?_)
    · try simp only [decide_eq_true_eq, decide_eq_false_iff_not, Bool.not_eq_true', Bool.not_eq_false'] at h2
      refine c_true rfl ?_
      refine c_seq ?_
      refine c_region _ rfl ?_
      refine l_q rfl (q_assign rfl rfl) rfl rfl ?_
      refine l_q rfl (q_assign rfl rfl) rfl rfl ?_
      refine l_nil ?_
      refine k_then ?_
      refine c_ret ?_
      refine k_then_ret ?_
      refine r_many (rs := [.tmp 2, .tmp 3]) rfl rfl ?_
      exact fun _ h => ⟨(), rfl, trivial, h⟩
    · try simp only [decide_eq_true_eq, decide_eq_false_iff_not, Bool.not_eq_true', Bool.not_eq_false'] at h2
      exfalso; omega
set_option maxRecDepth 100000 in
set_option maxHeartbeats 1000000 in
theorem new_spec (n : Nat) (h1n : 1 ≤ n) (hn : n ≤ 64) : Con Try.prog 9 [.int .i64 (n : Int)] (fun _ => True) [] (fun r : Nat × CS => .tuple #[.pointer (some ⟨r.1, 0, none⟩), .int .i64 0]) (fun r => Rel r.2 (mo0 n) ∧ ∀ G, NIn G r.2.fl) (fun r => r.2.H r.1) := by
  intro w hE hH
  refine enter (n := 30) (vs := [.int .i64 (n : Int)]) (St w [] []) Try.func9 rfl rfl rfl (St.init hH) ?_
  refine c_seq ?_
  refine c_region _ rfl ?_
  refine l_q rfl (q_assign rfl rfl) rfl rfl ?_
  refine l_q rfl (q_assign rfl rfl) rfl rfl ?_
  refine l_nil ?_
  refine k_then ?_
  refine c_seq ?_
  refine c_seq ?_
  refine c_region _ rfl ?_
  refine l_q rfl (q_move rfl rfl) rfl rfl ?_
  refine l_q rfl (q_lss rfl rfl rfl) rfl rfl ?_
  refine l_q rfl (q_move rfl rfl) rfl rfl ?_
  refine Pre.setB (t := 7) (c := false) rfl (decide_eq_false (by omega)) ?_
  refine l_q rfl (q_move rfl rfl) rfl rfl ?_
  refine l_q rfl (q_gtr rfl rfl rfl) rfl rfl ?_
  refine l_q rfl (q_pick_f rfl rfl rfl) rfl rfl ?_
  refine l_nil ?_
  refine k_then ?_
  refine Pre.setB (t := 10) (c := false) rfl (decide_eq_false (by omega)) ?_
  refine c_false rfl ?_
  refine c_skip ?_
  refine k_then ?_
  refine c_seq ?_
  refine c_region _ rfl ?_
  refine l_e rfl ?_
  refine e_makeMapT kI kI rfl rfl rfl ?_
  intro bA
  refine l_e rfl ?_
  refine e_makeMapT kI vS rfl rfl rfl ?_
  intro bM
  refine l_q rfl (q_build (c0 nil0 bA bM) rfl rfl (fun w => by kernel_rfl)) rfl rfl ?_
  refine l_e rfl ?_
  refine e_box rfl rfl rfl rfl ?_
  intro bc
  refine cells_eq (show _ = c0 nil0 bA bM from rfl) ?_
  refine l_q rfl (q_assign rfl rfl) rfl rfl ?_
  refine l_nil ?_
  refine k_then ?_
  refine c_seq ?_
  refine c_seq ?_
  refine c_region _ rfl ?_
  refine l_q rfl (q_move rfl rfl) rfl rfl ?_
  refine l_q rfl (q_move rfl rfl) rfl rfl ?_
  refine l_nil ?_
  refine k_then ?_
  refine c_block ?_
  refine row0 83 Wn.enc none ?_
  refine row0 80 FC.enc none ?_
  refine pull1 ?_
  refine pull3 ?_
  refine pull4 ?_
  refine pull3 ?_
  refine pull4 ?_
  refine c_loop2 (fun (i : Nat) (v : Value) => [(4, .pointer (some ⟨bc, 0, none⟩)), (15, .int .i64 (n : Int)), (16, .int .i64 (i : Int))]) (fun (i : Nat) (v : Value) => St w [] [cellsE bc 78 (c0 v bA bM), rowE v 80 FC.enc (List.replicate i fE), mapT bA kI kI [], mapT bM kI vS [], rowE nil0 83 Wn.enc []]) (fun (i : Nat) (v : Value) => i ≤ n) (fun (i : Nat) (v : Value) => n - i) (0) (.slice none 0 0) (Nat.zero_le _) (Sub.cons rfl (Sub.cons rfl (Sub.cons rfl (Sub.nil)))) (fun _ h => h) ?_
  intro i v hi
  refine c_seq ?_
  have hrl : (List.replicate i fE).length = i := List.length_replicate ..
  refine c_region _ rfl ?_
  refine l_q rfl (q_lss rfl rfl rfl) rfl rfl ?_
  refine l_nil ?_
  refine k_then ?_
  refine c_seq ?_
  refine Pre.caseB 17 rfl (fun h1 => ?_) (fun h1 => ?_)
  · try simp only [decide_eq_true_eq, decide_eq_false_iff_not, Bool.not_eq_true', Bool.not_eq_false'] at h1
    refine c_true rfl ?_
    refine c_skip ?_
    refine k_then ?_
    refine c_seq ?_
    refine c_block ?_
    refine c_draw [(0, some true), (1, some true), (2, some true), (3, some true), (4, some true), (5, some false), (6, some false), (7, some false), (8, none), (9, none), (10, none)] [8, 9, 10] [(_, some true), (_, some true), (_, some true), (_, some true), (_, some true), (_, some false), (_, some false), (_, some false), (_, none), (_, none), (_, none)] (fun w2 => (cellsE bc 78 (c0 v bA bM)).at w2) (blind_block (blind_then (blind_then (blind_block (blind_then blind_body))))) rfl (by kernel_rfl) (by kernel_rfl) rfl rfl rfl (by kernel_rfl) St.drawn (fun _ h => h.at 0 rfl) ?_
    refine d_q rfl (q_move rfl rfl) rfl rfl ?_
    refine d_q rfl (q_move rfl rfl) rfl rfl ?_
    refine d_q rfl (q_nilCheck rfl rfl) rfl rfl ?_
    refine d_q rfl (q_fieldAddr rfl Try.underlying78 rfl Try.sizeOf75 rfl rfl) rfl rfl ?_
    refine d_q rfl (q_loadC rfl Try.isAgg75 rfl (fun _ h => h) rfl) rfl rfl ?_
    refine d_e rfl ?_
    refine e_call_00 (empty_spec) rfl rfl rfl Try.call35 rfl (fun _ _ => trivial) ?_
    intro _ _
    refine d_held (fun _ h => h.at 0 rfl) ?_
    refine d_e rfl ?_
    refine e_buildSliceV (sz := 11) [.tmp 23] rfl rfl rfl rfl rfl Try.underlying75 Try.sizeOf80 rfl Try.zeroValue80 rfl ?_
    intro b2
    refine d_held (fun _ h => h.at 1 rfl) ?_
    refine pull2 ?_
    refine d_e rfl ?_
    refine e_append rfl rfl rfl Try.underlying75 Try.underlying75 info80 rfl rfl rfl rfl rfl (fun _ h => lit_rd (h.at 1 rfl) FC.enc [fE] rfl rfl) (by simp only [byt80, List.length_append, List.length_cons, List.length_nil]; omega) (by simp only [List.length_append, List.length_cons, List.length_nil]; omega) ?_
    intro v2
    refine row_eq (rep_snoc i fE) ?_
    refine pull1 ?_
    refine drop0 ?_
    refine d_held (fun _ h => h.at 1 rfl) ?_
    refine d_t rfl ?_
    refine e_q rfl rfl (q_nilCheck rfl rfl) ?_
    refine d_t rfl ?_
    refine e_q rfl rfl (q_fieldAddr rfl Try.underlying78 rfl Try.sizeOf75 rfl rfl) ?_
    refine Pre.fact (fun _ h => rd_sv (h.rd 0 rfl)) ?_
    rintro ⟨sv, rfl⟩
    refine pull1 ?_
    refine d_t rfl ?_
    refine e_store rfl rfl Try.sizeOf75 rfl rfl rfl (Nat.le_of_ble_eq_true rfl) ?_
    refine cells_eq (show _ = c0 sv.v bA bM from rfl) ?_
    refine d_nil ?_
    refine k_block ?_
    refine k_then ?_
    refine c_region _ rfl ?_
    refine l_q rfl (q_inc rfl rfl rfl (by omega)) rfl rfl ?_
    refine l_q rfl (q_move rfl rfl) rfl rfl ?_
    refine l_nil ?_
    refine pull4 ?_
    refine pull4 ?_
    refine pull4 ?_
    refine pull4 ?_
    refine pull4 ?_
    exact k_round ((i + 1, sv.v)) (by dsimp only; omega) (by dsimp only; omega) (Sub.cons rfl (Sub.cons rfl (Sub.cons rfl (Sub.nil)))) (fun _ h => h)
  · try simp only [decide_eq_true_eq, decide_eq_false_iff_not, Bool.not_eq_true', Bool.not_eq_false'] at h1
    have hin : i = n := by omega
    subst hin
    refine c_false rfl ?_
    refine c_exit ?_
    refine k_then_exit ?_
    refine k_then_exit ?_
    refine k_block_exit ?_
    refine k_then ?_
    refine c_seq ?_
    refine c_region _ rfl ?_
    refine l_q rfl (q_move rfl rfl) rfl rfl ?_
    refine l_q rfl (q_assign rfl rfl) rfl rfl ?_
    refine l_q rfl (q_assign rfl rfl) rfl rfl ?_
    refine l_nil ?_
    refine k_then ?_
    refine c_ret ?_
    refine r_many (rs := [.tmp 2, .tmp 3]) rfl rfl ?_
    exact fun _ h => ⟨(bc, ⟨v, List.replicate i fE, bA, [], bM, [], nil0, [], 0⟩), rfl, ⟨Rel.zero _ _ _ _ _, fun G => NIn.zero G i⟩, h⟩
set_option maxRecDepth 100000 in
set_option maxHeartbeats 1000000 in
theorem name_spec {bc : Nat} {S : CS} {M : Mo} {B : Nat} (hR : Rel S M) (hO : M.Ok B) (t b : Int) (nv : NV) (hn : nv.l.length ≤ 65536) : Con Try.prog 25 [.pointer (some ⟨bc, 0, none⟩), .int .i64 t, .int .i64 b, .agg nv.c.toArray] (fun _ => True) (nrow nv :: S.H bc) (fun r : CS × NV => .bool (M.name t b nv.leaf nv.l).1) (fun r => Rel r.1 (M.name t b nv.leaf nv.l).2 ∧ ∀ G, nrow r.2 ∈ G → NIn G S.fl → NIn G r.1.fl) (fun r => nrow r.2 :: nrow nv :: r.1.H bc) := by
  intro w hE hH
  refine enter (n := 40) (vs := [.pointer (some ⟨bc, 0, none⟩), .int .i64 t, .int .i64 b, .agg nv.c.toArray]) (St w (dom (nrow nv :: S.H bc)) (nrow nv :: cellsE bc 78 (S).cells :: rowE (S).vF 80 FC.enc (S).fl :: mapT (S).bA kI kI (S).at' :: mapT (S).bL kI vS (S).ld :: rowE (S).vL 83 Wn.enc (S).ln :: (S).rows)) Try.func25 rfl rfl rfl (St.init hH) ?_
  refine c_seq ?_
  refine c_region _ rfl ?_
  refine l_e rfl ?_
  refine e_box rfl rfl rfl rfl ?_
  intro bn
  refine cells_eq (show _ = nv.c from rfl) ?_
  refine l_q rfl (q_assign rfl rfl) rfl rfl ?_
  refine l_nil ?_
  refine k_then ?_
  refine c_seq ?_
  refine c_region _ rfl ?_
  refine l_q rfl (q_move rfl rfl) rfl rfl ?_
  refine l_q rfl (q_move rfl rfl) rfl rfl ?_
  obtain ⟨ks, hks⟩ : ∃ ks, ks = cls M t M.fr.length := ⟨_, rfl⟩
  have hcf := cls_first M t
  rw [← hks] at hcf
  refine l_e rfl ?_
  refine e_call_01 (claimed_spec hR hO t) rfl rfl rfl Try.call50 rfl (fun _ h => CR.ofm (S := S) h (fun e he => List.mem_cons_of_mem _ (List.mem_cons_of_mem _ (he)))) ?_
  intro vk _
  rw [← hks]
  refine l_q rfl (q_assign rfl rfl) rfl rfl ?_
  refine l_nil ?_
  refine k_then ?_
  refine c_seq ?_
  refine c_seq ?_
  refine c_region _ rfl ?_
  refine l_q rfl (q_move rfl rfl) rfl rfl ?_
  refine l_e rfl ?_
  refine e_call_00 (block_spec b) rfl rfl rfl Try.call36 rfl (fun _ _ => trivial) ?_
  intro _ _
  refine l_q rfl (q_not rfl rfl) rfl rfl ?_
  refine l_q rfl (q_move rfl rfl) rfl rfl ?_
  refine Pre.caseB 16 rfl (fun hb => ?_) (fun hb => ?_)
  · try simp only [Bool.not_eq_true', Bool.not_eq_false'] at hb
    have hu := name_no1 (M := M) (t := t) (b := b) nv.leaf nv.l (by rw [hb]; rfl)
    refine l_not rfl rfl rfl ?_
    refine l_not rfl rfl rfl ?_
    refine l_not rfl rfl rfl ?_
    refine l_q rfl (q_pick_t rfl rfl rfl) rfl rfl ?_
    refine l_q rfl (q_move rfl rfl) rfl rfl ?_
    refine l_not rfl rfl rfl ?_
    refine l_not rfl rfl rfl ?_
    refine l_not rfl rfl rfl ?_
    refine l_not rfl rfl rfl ?_
    refine l_q rfl (q_pick_t rfl rfl rfl) rfl rfl ?_
    refine l_nil ?_
    refine k_then ?_
    refine c_true rfl ?_
    refine c_seq ?_
    refine c_region _ rfl ?_
    refine l_q rfl (q_assign rfl rfl) rfl rfl ?_
    refine l_nil ?_
    refine k_then ?_
    refine c_ret ?_
    refine k_then_ret ?_
    refine drop0 ?_
    refine drop0 ?_
    refine row0 121 En.enc none ?_
    refine r_one rfl rfl ?_
    exact fun _ h => ⟨(S, ⟨true, sv0, []⟩), by rw [hu], ⟨by rw [hu]; exact hR, fun _ _ h => h⟩, h⟩
  · try simp only [Bool.not_eq_true', Bool.not_eq_false'] at hb
    refine l_q rfl (q_move rfl rfl) rfl rfl ?_
    refine l_q rfl (q_lenV rfl Try.underlying94 rfl (fun _ h => h.rd 0 rfl)) rfl rfl ?_
    refine l_q rfl (q_eql rfl rfl rfl) rfl rfl ?_
    refine l_q rfl (q_pick_f rfl rfl rfl) rfl rfl ?_
    refine l_q rfl (q_move rfl rfl) rfl rfl ?_
    refine list_cases ks (fun hk => ?_) (fun k r hk => ?_)
    · have hk0 : ks.length = 0 := by rw [hk]; rfl
      refine Pre.setB (t := 21) (c := true) rfl (decide_eq_true (by omega)) ?_
      refine l_not rfl rfl rfl ?_
      refine l_not rfl rfl rfl ?_
      refine l_not rfl rfl rfl ?_
      refine l_not rfl rfl rfl ?_
      refine l_q rfl (q_pick_t rfl rfl rfl) rfl rfl ?_
      refine l_nil ?_
      refine k_then ?_
      refine c_true rfl ?_
      refine c_seq ?_
      refine c_region _ rfl ?_
      refine l_q rfl (q_assign rfl rfl) rfl rfl ?_
      refine l_nil ?_
      refine k_then ?_
      refine c_ret ?_
      refine k_then_ret ?_
      have hu := name_no2 (M := M) (t := t) (b := b) nv.leaf nv.l (by rw [hcf, hk]; rfl)
      refine drop0 ?_
      refine drop0 ?_
      refine row0 121 En.enc none ?_
      refine r_one rfl rfl ?_
      exact fun _ h => ⟨(S, ⟨true, sv0, []⟩), by rw [hu], ⟨by rw [hu]; exact hR, fun _ _ h => h⟩, h⟩
    · have hk0 : 0 < ks.length := by rw [hk]; simp
      have hj : ks[0]? = some k := by rw [hk]; rfl
      refine Pre.setB (t := 21) (c := false) rfl (decide_eq_false (by omega)) ?_
      refine l_q rfl (q_move rfl rfl) rfl rfl ?_
      refine l_q rfl (q_move rfl rfl) rfl rfl ?_
      refine l_e rfl ?_
      refine e_call_00 (place_spec hR hO b) rfl rfl rfl Try.call38 rfl (fun _ h => CR.ofm (S := S) h (fun e he => List.mem_cons_of_mem _ (List.mem_cons_of_mem _ (List.mem_cons_of_mem _ he)))) ?_
      intro _ _
      refine l_q rfl (q_geq rfl rfl rfl) rfl rfl ?_
      refine l_q rfl (q_pick_f rfl rfl rfl) rfl rfl ?_
      refine l_nil ?_
      refine k_then ?_
      refine Pre.caseB 26 rfl (fun hp => ?_) (fun hp => ?_)
      · rw [io_ge] at hp
        have hu := name_no1 (M := M) (t := t) (b := b) nv.leaf nv.l (by rw [← Option.not_isSome, hp, Bool.not_true, Bool.and_false])
        refine c_true rfl ?_
        refine c_seq ?_
        refine c_region _ rfl ?_
        refine l_q rfl (q_assign rfl rfl) rfl rfl ?_
        refine l_nil ?_
        refine k_then ?_
        refine c_ret ?_
        refine k_then_ret ?_
        refine drop0 ?_
        refine drop0 ?_
        refine row0 121 En.enc none ?_
        refine r_one rfl rfl ?_
        exact fun _ h => ⟨(S, ⟨true, sv0, []⟩), by rw [hu], ⟨by rw [hu]; exact hR, fun _ _ h => h⟩, h⟩
      · rw [io_ge] at hp
        have hfn : M.find b = none := by cases h : M.find b with
          | none => rfl
          | some _ => rw [h] at hp; cases hp
        have hu := name_yes (M := M) (t := t) (b := b) nv.leaf nv.l (by rw [hb, hfn]; rfl) (by rw [hcf, hk]; rfl)
        have hkc := (mem_cls (M := M) (t := t) (i := k) (n := M.fr.length)).1 (by rw [← hks, hk]; exact List.mem_cons_self ..)
        obtain ⟨y0, hy0⟩ : ∃ y, M.fr[k]? = some y := ⟨_, List.getElem?_eq_getElem hkc.1⟩
        obtain ⟨f0, hfk, hfy⟩ := hR.get hy0
        have hkl := (List.getElem?_eq_some_iff.1 hfk).1
        have hys : y0.st = 3 := by have := hkc.2; rw [at_eq hy0] at this; unfold isC at this; simp only [Bool.and_eq_true, decide_eq_true_eq] at this; exact this.1
        refine c_false rfl ?_
        refine c_skip ?_
        refine k_then ?_
        refine c_seq ?_
        refine c_draw [(0, some true), (1, some true), (2, some true), (3, some true), (4, some true), (5, some false), (6, some true), (7, none), (8, none)] [7, 8] [(_, some true), (_, some true), (_, some true), (_, some true), (_, some true), (_, some false), (_, some true), (_, none), (_, none)] (fun w2 => (cellsE bn 37 nv.c).at w2 ∧ RdV w2 vk (encFp S.vF) ks) (blind_then blind_body) rfl (by kernel_rfl) (by kernel_rfl) rfl rfl rfl (by kernel_rfl) St.drawn (fun _ h => ⟨h.at 1 rfl, h.rd 0 rfl⟩) ?_
        refine d_q rfl (q_move rfl rfl) rfl rfl ?_
        refine d_q rfl (q_indexV 0 rfl Try.underlying94 Try.sizeOf85 rfl (fun _ h => h.2) rfl rfl (by omega)) rfl rfl ?_
        refine d_q rfl (q_loadV 0 0 rfl Try.isAgg85 rfl rfl (fun _ h => h.2) hj rfl) rfl rfl ?_
        refine d_q rfl (q_move rfl rfl) rfl rfl ?_
        refine d_q rfl (q_loadCAgg (nv.c) rfl Try.isAgg37 Try.sizeOf37 rfl (fun _ h => h.1) (rfl) (rfl)) rfl rfl ?_
        refine d_e rfl ?_
        refine e_call_01 (own_spec nv hn) rfl rfl rfl Try.call47 rfl (fun _ h => h.rd 2 rfl) ?_
        intro s _
        refine d_held (fun _ h => ⟨h.at 2 rfl, h.rd 1 rfl⟩) ?_
        refine d_q rfl (q_build ((⟨2, b, -1, 0, true, true, ⟨nv.leaf, s, nv.l⟩⟩ : FC).c) rfl rfl (fun w => by kernel_rfl)) rfl rfl ?_
        refine d_t rfl ?_
        refine e_q rfl rfl (q_nilCheck rfl rfl) ?_
        refine pull5 ?_
        refine d_t rfl ?_
        refine e_storeVAgg k ((⟨2, b, -1, 0, true, true, ⟨nv.leaf, s, nv.l⟩⟩ : FC)) rfl rfl Try.sizeOf80 rfl rfl rfl rfl (by omega) ?_
        refine d_nil ?_
        refine k_then ?_
        refine c_seq ?_
        refine c_region _ rfl ?_
        refine l_q rfl (q_move rfl rfl) rfl rfl ?_
        refine l_q rfl (q_move rfl rfl) rfl rfl ?_
        refine l_q rfl (q_indexV 0 rfl Try.underlying94 Try.sizeOf85 rfl (fun _ h => h.rd 2 rfl) rfl rfl (by omega)) rfl rfl ?_
        refine l_q rfl (q_loadV 0 0 rfl Try.isAgg85 rfl rfl (fun _ h => h.rd 2 rfl) hj rfl) rfl rfl ?_
        refine pull8 ?_
        refine pull8 ?_
        refine pull8 ?_
        refine pull3 ?_
        refine pull8 ?_
        refine pull8 ?_
        refine pull8 ?_
        refine pull8 ?_
        refine pull8 ?_
        have hfk2 : ({ S with fl := S.fl.set k (⟨2, b, -1, 0, true, true, ⟨nv.leaf, s, nv.l⟩⟩ : FC) } : CS).fl[k]? = some (⟨2, b, -1, 0, true, true, ⟨nv.leaf, s, nv.l⟩⟩ : FC) := List.getElem?_set_self hkl
        have hf64 : ({ S with fl := S.fl.set k (⟨2, b, -1, 0, true, true, ⟨nv.leaf, s, nv.l⟩⟩ : FC) } : CS).fl.length ≤ 65536 := by
          show (S.fl.set k _).length ≤ _
          rw [List.length_set, hR.len]; have := hO.n64; omega
        refine Pre.world (St _ _ (_ :: _ :: _ :: _ :: CS.H bc ({ S with fl := S.fl.set k (⟨2, b, -1, 0, true, true, ⟨nv.leaf, s, nv.l⟩⟩ : FC) } : CS))) (fun _ h => h) ?_
        refine l_e rfl ?_
        refine e_callH [_, _, _, _] (placef_spec (S := ({ S with fl := S.fl.set k (⟨2, b, -1, 0, true, true, ⟨nv.leaf, s, nv.l⟩⟩ : FC) } : CS)) hfk2 hf64) rfl rfl rfl Try.call42 rfl (fun _ _ => trivial) ?_
        intro _ _
        refine Pre.world (St _ _ (_ :: _ :: _ :: _ :: cellsE bc 78 (({ S with fl := S.fl.set k (⟨2, b, -1, 0, true, true, ⟨nv.leaf, s, nv.l⟩⟩ : FC), at' := mput b (k : Int) S.at' } : CS)).cells :: rowE (({ S with fl := S.fl.set k (⟨2, b, -1, 0, true, true, ⟨nv.leaf, s, nv.l⟩⟩ : FC), at' := mput b (k : Int) S.at' } : CS)).vF 80 FC.enc (({ S with fl := S.fl.set k (⟨2, b, -1, 0, true, true, ⟨nv.leaf, s, nv.l⟩⟩ : FC), at' := mput b (k : Int) S.at' } : CS)).fl :: mapT (({ S with fl := S.fl.set k (⟨2, b, -1, 0, true, true, ⟨nv.leaf, s, nv.l⟩⟩ : FC), at' := mput b (k : Int) S.at' } : CS)).bA kI kI (({ S with fl := S.fl.set k (⟨2, b, -1, 0, true, true, ⟨nv.leaf, s, nv.l⟩⟩ : FC), at' := mput b (k : Int) S.at' } : CS)).at' :: mapT (({ S with fl := S.fl.set k (⟨2, b, -1, 0, true, true, ⟨nv.leaf, s, nv.l⟩⟩ : FC), at' := mput b (k : Int) S.at' } : CS)).bL kI vS (({ S with fl := S.fl.set k (⟨2, b, -1, 0, true, true, ⟨nv.leaf, s, nv.l⟩⟩ : FC), at' := mput b (k : Int) S.at' } : CS)).ld :: rowE (({ S with fl := S.fl.set k (⟨2, b, -1, 0, true, true, ⟨nv.leaf, s, nv.l⟩⟩ : FC), at' := mput b (k : Int) S.at' } : CS)).vL 83 Wn.enc (({ S with fl := S.fl.set k (⟨2, b, -1, 0, true, true, ⟨nv.leaf, s, nv.l⟩⟩ : FC), at' := mput b (k : Int) S.at' } : CS)).ln :: (({ S with fl := S.fl.set k (⟨2, b, -1, 0, true, true, ⟨nv.leaf, s, nv.l⟩⟩ : FC), at' := mput b (k : Int) S.at' } : CS)).rows)) (fun _ h => h) ?_
        refine l_nil ?_
        refine k_then ?_
        refine c_seq ?_
        refine c_region _ rfl ?_
        refine l_q rfl (q_assign rfl rfl) rfl rfl ?_
        refine l_nil ?_
        refine k_then ?_
        refine c_ret ?_
        refine pull1 ?_
        refine drop0 ?_
        refine pull1 ?_
        refine drop0 ?_
        refine pull6 ?_
        refine pull6 ?_
        refine pull6 ?_
        refine pull6 ?_
        refine pull6 ?_
        refine pull6 ?_
        refine pull6 ?_
        refine r_one rfl rfl ?_
        exact fun _ h => ⟨(({ S with fl := S.fl.set k (⟨2, b, -1, 0, true, true, ⟨nv.leaf, s, nv.l⟩⟩ : FC), at' := mput b (k : Int) S.at' } : CS), ⟨nv.leaf, s, nv.l⟩), by rw [hu], ⟨by rw [hu]; exact hR.new hy0 (by rw [hys]; decide) hfn rfl rfl (.inr rfl), fun G hG1 hG => hG.set (.inr hG1)⟩, h⟩
end Go.Proofs.Ytpfbagkjhchojaa
