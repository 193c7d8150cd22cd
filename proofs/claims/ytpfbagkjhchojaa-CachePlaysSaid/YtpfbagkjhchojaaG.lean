/- cache: a frame is put; place, Unpin -/
import Derived.Test.YtpfbagkjhchojaaF
set_option linter.unusedVariables false
set_option linter.unusedSimpArgs false
namespace Go.Proofs.Ytpfbagkjhchojaa
open Go.Sep Go.RowKit

section
variable {P : Program} {n : Nat} {L : Env} {X : World → Prop} {o : Oper}
theorem q_eqpp {t u e : TypeId} {x y : Operand} {b o1 o2 sz : Nat} (ho : o.op = .binOp .eql t x y u) (ht : P.underlying t = some (.pointer e)) (hz : ∀ w, (sizeOf e).run P w = .ok sz w) (hs : sz ≠ 0) (hx : ev L x = some (.pointer (some ⟨b, o1, none⟩))) (hy : ev L y = some (.pointer (some ⟨b, o2, none⟩))) : QOp P n L X o (.bool (decide (o1 = o2))) :=
  q_bin ho hx hy (fun w _ => run_both rfl (bin_eq w rfl (run_equal w (fun d => by
    have hb : ((⟨b, o1, none⟩ : Addr) == ⟨b, o2, none⟩) = decide (o1 = o2) := by
      by_cases h : o1 = o2
      · subst h; simp
      · rw [decide_eq_false h]; rw [Bool.eq_false_iff]; intro h'; exact h (congrArg Addr.off (beq_iff_eq.1 h'))
    unfold Op.equalIn
    simp [run_und ht, hz, hs, sameAddr, hb]))))
end
theorem perm_out {T : List Ent} {j : Nat} {e : Ent} (hj : T[j]? = some e) : T.Perm (e :: T.eraseIdx j) := by
  induction T generalizing j with
  | nil => cases hj
  | cons a T ih =>
    cases j with
    | zero => cases hj; exact List.Perm.refl _
    | succ j => exact ((ih hj).cons a).trans (List.Perm.swap e a _)
theorem perm_in {T : List Ent} {j : Nat} {e : Ent} (hj : j < T.length) : (e :: T.eraseIdx j).Perm (T.set j e) := by
  induction T generalizing j with
  | nil => cases hj
  | cons a T ih =>
    cases j with
    | zero => exact List.Perm.refl _
    | succ j => exact (List.Perm.swap a e _).trans ((ih (by simpa using hj)).cons a)
section
variable {w0 w : World} {D : List Nat}
theorem St.pullT {pre T : List Ent} {j : Nat} {e : Ent} (hj : T[j]? = some e) (h : St w0 D (pre ++ T) w) : St w0 D (e :: (pre ++ T.eraseIdx j)) w :=
  h.perm (((perm_out hj).append_left pre).trans List.perm_middle)
theorem St.pushT {pre T : List Ent} {j : Nat} {e : Ent} (hj : j < T.length) (h : St w0 D (e :: (pre ++ T.eraseIdx j)) w) : St w0 D (pre ++ T.set j e) w :=
  h.perm (List.perm_middle.symm.trans ((perm_in hj).append_left pre))
theorem St.addT {pre T : List Ent} {e : Ent} (h : St w0 D (e :: (pre ++ T)) w) : St w0 D (pre ++ (T ++ [e])) w :=
  h.perm (by
    rw [← List.append_assoc]
    exact (List.perm_append_singleton e (pre ++ T)).symm)
end
/-! ## A frame is put -/
theorem fst1_set {α : Type} {p : α → Bool} : ∀ {l : List α} {i : Nat} {x y : α}, l[i]? = some x → p y = p x → fst1 p (l.set i y) = fst1 p l
  | [], i, x, y, h, _ => by cases h
  | a :: l, 0, x, y, h, hp => by
    cases h
    unfold fst1
    simp only [List.set_cons_zero, List.findIdx?_cons, hp]
  | a :: l, i + 1, x, y, h, hp => by
    have ih := fst1_set (p := p) (l := l) (i := i) (x := x) (y := y) (by simpa using h) hp
    unfold fst1 at ih ⊢
    simp only [List.set_cons_succ, List.findIdx?_cons, ih]
theorem fst1_new {α : Type} {p : α → Bool} {l : List α} {i : Nat} {x y : α} (hi : l[i]? = some x) (hn : fst1 p l = none) (hp : p y = true) : fst1 p (l.set i y) = some i := by
  have hlt := (List.getElem?_eq_some_iff.1 hi).1
  refine fst1_some (y := y) (by rw [List.getElem?_set_self hlt]) hp (fun z hz => ?_)
  rw [List.take_set_of_le (Nat.le_refl _)] at hz
  exact fst1_no hn z (List.mem_of_mem_take hz)
theorem put_find {M : Mo} {i : Nat} {y y' : Vw} (hy : M.fr[i]? = some y) (hb : ∀ b, isB b y' = isB b y) (b : Int) : (M.put i y').find b = M.find b := fst1_set hy (hb b)
theorem putv_same {M : Mo} {i : Nat} {y y' : Vw} (hy : M.fr[i]? = some y) (hb : y'.blk = y.blk) (hs : (y'.st = 1 ∨ y'.st = 2) ↔ (y.st = 1 ∨ y.st = 2)) (b : Int) : (M.put i y').find b = M.find b :=
  put_find hy (fun c => by
    unfold isB
    rw [hb]
    congr 1
    rw [← Bool.decide_or, ← Bool.decide_or, decide_eq_decide]; exact hs) b
theorem put_new {M : Mo} {i : Nat} {y y' : Vw} {b : Int} (hy : M.fr[i]? = some y) (hf : ¬ (y.st = 1 ∨ y.st = 2)) (hn : M.find b = none) (hb : y'.blk = b) (hs : y'.st = 1 ∨ y'.st = 2) (c : Int) : (M.put i y').find c = if c = b then some i else M.find c := by
  have hy0 : ∀ c, isB c y = false := fun c => by
    unfold isB
    rw [← Bool.decide_or, decide_eq_false hf, Bool.and_false]
  split
  · rename_i e; subst e
    exact fst1_new hy hn (by unfold isB; rw [← Bool.decide_or, decide_eq_true hs, decide_eq_true hb]; rfl)
  · rename_i e
    exact fst1_set hy (by rw [hy0]; unfold isB; rw [decide_eq_false (fun e' => e (by rw [← e', hb]))]; rfl)
theorem put_ok {M : Mo} {B : Nat} (h : M.Ok B) {i : Nat} {y y' : Vw} (hy : M.fr[i]? = some y) (h1 : y'.st = 0 ∨ y'.st = 1 ∨ y'.st = 2 ∨ y'.st = 3) (h2 : y'.st = 0 ∨ y'.st = 3 → y'.blk = -1) (h3 : y'.st = 1 ∨ y'.st = 2 → 0 ≤ y'.blk ∧ y'.blk < 256) (h4 : y'.st = 3 → 0 ≤ y'.own ∧ y'.own < 8) (h5 : y'.st ≠ 3 → y'.own = 0) (h6 : 0 ≤ y'.pins ∧ y'.pins ≤ (B : Int))
    (h7 : y'.st = 1 ∨ y'.st = 2 → ∀ (j : Nat) (z : Vw), j ≠ i → M.fr[j]? = some z → z.st = 1 ∨ z.st = 2 → z.blk ≠ y'.blk) (h8 : ∀ q ∈ M.loads, y.st = 1 → y.blk = q.2 → y'.st = 1 ∧ y'.blk = q.2) (h9 : y'.es.length ≤ 1000) : (M.put i y').Ok B := by
  have hlt := (List.getElem?_eq_some_iff.1 hy).1
  have hm : ∀ f ∈ (M.put i y').fr, f ∈ M.fr ∨ f = y' := fun f hf => List.mem_or_eq_of_mem_set hf
  have hg : ∀ (j : Nat), (M.put i y').fr[j]? = if j = i then some y' else M.fr[j]? := fun j => by
    show (M.fr.set i y')[j]? = _
    rw [List.getElem?_set]
    by_cases e : j = i
    · subst e; rw [if_pos rfl, if_pos hlt, if_pos rfl]
    · rw [if_neg (fun e' => e e'.symm), if_neg e]
  have hl : (M.put i y').fr.length = M.fr.length := List.length_set
  refine ⟨by rw [hl]; exact h.n1, by rw [hl]; exact h.n64, fun f hf => ?_, fun f hf hs => ?_, fun f hf hs => ?_, fun f hf hs => ?_, fun f hf hs => ?_, fun f hf => ?_, fun a b f g ha hb hf hg' e => ?_, h.ll, h.lB, h.ln, h.lb, fun q hq => ?_, fun f hf => ?_, h.hw, h.B9⟩
  · rcases hm f hf with hf | rfl; exact h.st f hf; exact h1
  · rcases hm f hf with hf | rfl; exact h.none' f hf hs; exact h2 hs
  · rcases hm f hf with hf | rfl; exact h.blk f hf hs; exact h3 hs
  · rcases hm f hf with hf | rfl; exact h.own f hf hs; exact h4 hs
  · rcases hm f hf with hf | rfl; exact h.own0 f hf hs; exact h5 hs
  · rcases hm f hf with hf | rfl; exact h.pins f hf; exact h6
  · rw [hg] at ha hb
    split at ha <;> split at hb
    · rename_i e1 e2; rw [e1, e2]
    · rename_i e1 e2; cases ha; exact absurd e.symm (h7 hf b g e2 hb hg')
    · rename_i e1 e2; cases hb; exact absurd e (h7 hg' a f e1 ha hf)
    · exact h.uni a b f g ha hb hf hg' e
  · obtain ⟨f, hf, e1, e2⟩ := h.lo q hq
    obtain ⟨j, hj⟩ := List.mem_iff_getElem?.1 hf
    by_cases e : j = i
    · subst e
      rw [hy] at hj; cases hj
      obtain ⟨g1, g2⟩ := h8 q hq e1 e2
      exact ⟨y', List.mem_of_getElem? (by rw [hg, if_pos rfl]), g1, g2⟩
    · exact ⟨f, List.mem_of_getElem? (by rw [hg, if_neg e]; exact hj), e1, e2⟩
  · rcases hm f hf with hf | rfl; exact h.es f hf; exact h9
/-- A frame's cells are turned: the relation. -/
theorem Rel.put {S : CS} {M : Mo} (h : Rel S M) {i : Nat} {f' : FC} {y' : Vw} (hv : vw f' = y') (a' : List (Int × Int)) (ha : ∀ b, mget b a' = Option.map (fun i : Nat => (i : Int)) ((M.put i y').find b)) (hna : (a'.map Prod.fst).Nodup) : Rel { S with fl := S.fl.set i f', at' := a' } (M.put i y') :=
  ⟨by show (S.fl.set i f').map vw = M.fr.set i y'; rw [List.map_set, h.fr, hv], h.ln, h.hd, ha, h.ld, h.nd, hna⟩
theorem takes_at {M : Mo} {t : Int} {k : Nat} (h : M.takes t = some k) : ∃ y, M.fr[k]? = some y ∧ y.st = 0 ∧ M.at' k = y := by
  unfold Mo.takes at h
  split at h
  · obtain ⟨y, h1, h2, _⟩ := fst1_at h
    exact ⟨y, h1, of_decide_eq_true h2, at_eq h1⟩
  · cases h
theorem leave_fr (M : Mo) (t : Int) : (M.leave t).fr = M.fr := rfl
theorem leave_find (M : Mo) (t b : Int) : (M.leave t).find b = M.find b := rfl
theorem put_leave (M : Mo) (i : Nat) (y : Vw) (t : Int) : (M.put i y).leave t = (M.leave t).put i y := rfl
/-- Each frame's node is empty, or its row is among these. -/
def NIn (G : List Ent) (fl : List FC) : Prop := ∀ f ∈ fl, (f.nv.e = sv0 ∧ f.nv.l = []) ∨ nrow f.nv ∈ G
theorem NIn.set {G : List Ent} {fl : List FC} (h : NIn G fl) {i : Nat} {f' : FC} (hf : (f'.nv.e = sv0 ∧ f'.nv.l = []) ∨ nrow f'.nv ∈ G) : NIn G (fl.set i f') := fun g hg => by
  rcases List.mem_or_eq_of_mem_set hg with hg | rfl
  · exact h g hg
  · exact hf
theorem NIn.set_same {G : List Ent} {fl : List FC} (h : NIn G fl) {i : Nat} {f f' : FC} (hf : fl[i]? = some f) (e : f'.nv = f.nv) : NIn G (fl.set i f') := h.set (by rw [e]; exact h f (List.mem_of_getElem? hf))

set_option maxRecDepth 100000 in
set_option maxHeartbeats 1000000 in
theorem placef_spec {bc : Nat} {S : CS} {k : Nat} {f : FC} (hfk : S.fl[k]? = some f) (hn : S.fl.length ≤ 65536) : Con Try.prog 42 [.pointer (some ⟨bc, 0, none⟩), fp S.vF k] (fun _ => True) (S.H bc) (fun _ : Unit => .tuple #[]) (fun _ => True) (fun _ => CS.H bc { S with at' := mput f.blk (k : Int) S.at' }) := by
  intro w hE hH
  refine enter (n := 31) (vs := [.pointer (some ⟨bc, 0, none⟩), fp S.vF k]) (St w (dom (S.H bc)) (cellsE bc 78 (S).cells :: rowE (S).vF 80 FC.enc (S).fl :: mapT (S).bA kI kI (S).at' :: mapT (S).bL kI vS (S).ld :: rowE (S).vL 83 Wn.enc (S).ln :: (S).rows)) Try.func42 rfl rfl rfl (St.init hH) ?_
  refine c_seq ?_
  have hkl := (List.getElem?_eq_some_iff.1 hfk).1
  refine c_region _ rfl ?_
  refine l_q rfl (q_move rfl rfl) rfl rfl ?_
  refine l_q rfl (q_nilCheck rfl rfl) rfl rfl ?_
  refine l_q rfl (q_fieldAddr rfl Try.underlying78 rfl Try.sizeOf75 rfl rfl) rfl rfl ?_
  refine l_q rfl (q_loadC rfl Try.isAgg75 rfl (fun _ h => h.at 0 rfl) rfl) rfl rfl ?_
  refine l_q rfl (q_lenV rfl Try.underlying75 rfl (fun _ h => h.rd 1 rfl)) rfl rfl ?_
  refine l_q rfl (q_move rfl rfl) rfl rfl ?_
  refine l_nil ?_
  refine k_then ?_
  refine c_block ?_
  refine c_loop1 (fun (i : Nat) => [(0, .pointer (some ⟨bc, 0, none⟩)), (1, fp S.vF k), (9, .int .i64 (S.fl.length : Int)), (10, .int .i64 (i : Int))]) (fun (i : Nat) => St w (dom (S.H bc)) (cellsE bc 78 (S).cells :: rowE (S).vF 80 FC.enc (S).fl :: mapT S.bA kI kI (if k < i then mput f.blk (k : Int) S.at' else S.at') :: mapT (S).bL kI vS (S).ld :: rowE (S).vL 83 Wn.enc (S).ln :: (S).rows)) (fun (i : Nat) => i ≤ S.fl.length) (fun (i : Nat) => S.fl.length - i) (0) (Nat.zero_le _) (Sub.cons rfl (Sub.cons rfl (Sub.cons rfl (Sub.cons rfl (Sub.nil))))) (fun _ h => h) ?_
  intro i hi
  refine c_seq ?_
  refine c_region _ rfl ?_
  refine l_q rfl (q_lss rfl rfl rfl) rfl rfl ?_
  refine l_nil ?_
  refine k_then ?_
  refine c_seq ?_
  refine Pre.caseB 11 rfl (fun h1 => ?_) (fun h1 => ?_)
  · try simp only [decide_eq_true_eq, decide_eq_false_iff_not, Bool.not_eq_true', Bool.not_eq_false'] at h1
    refine c_true rfl ?_
    refine c_skip ?_
    refine k_then ?_
    refine c_seq ?_
    refine c_block ?_
    refine c_seq ?_
    refine c_region _ rfl ?_
    refine l_q rfl (q_move rfl rfl) rfl rfl ?_
    refine l_q rfl (q_assign rfl rfl) rfl rfl ?_
    refine l_nil ?_
    refine k_then ?_
    refine c_seq ?_
    refine c_region _ rfl ?_
    refine l_q rfl (q_move rfl rfl) rfl rfl ?_
    refine l_q rfl (q_nilCheck rfl rfl) rfl rfl ?_
    refine l_q rfl (q_fieldAddr rfl Try.underlying78 rfl Try.sizeOf75 rfl rfl) rfl rfl ?_
    refine l_q rfl (q_loadC rfl Try.isAgg75 rfl (fun _ h => h.at 0 rfl) rfl) rfl rfl ?_
    refine l_q rfl (q_move rfl rfl) rfl rfl ?_
    refine l_q rfl (q_indexV i rfl Try.underlying75 Try.sizeOf80 rfl (fun _ h => h.rd 1 rfl) rfl rfl (by omega)) rfl rfl ?_
    refine l_q rfl (q_move rfl rfl) rfl rfl ?_
    refine l_q rfl (q_eqpp rfl Try.underlying85 Try.sizeOf80 (by decide) rfl rfl) rfl rfl ?_
    refine l_nil ?_
    refine k_then ?_
    refine Pre.caseB 20 rfl (fun h2 => ?_) (fun h2 => ?_)
    · try simp only [decide_eq_true_eq, decide_eq_false_iff_not, Bool.not_eq_true', Bool.not_eq_false'] at h2
      simp only [show FC.enc.sz = 11 from rfl] at h2
      have hik : i = k := by omega
      rw [if_neg (show ¬ k < i by omega)]
      refine c_true rfl ?_
      refine c_draw [(0, some true), (1, some true), (2, some true), (3, some true), (4, some true), (5, some true), (6, some true), (7, some true), (8, some true), (9, none)] [9] [(_, some true), (_, some true), (_, some true), (_, some true), (_, some true), (_, some true), (_, some true), (_, some true), (_, some true), (_, none)] _ (blind_block (blind_then (blind_then (blind_block blind_body)))) rfl (by kernel_rfl) (by kernel_rfl) rfl rfl rfl (by kernel_rfl) St.drawn (fun _ h => h) ?_
      refine d_q rfl (q_move rfl rfl) rfl rfl ?_
      refine d_q rfl (q_nilCheck rfl rfl) rfl rfl ?_
      refine d_q rfl (q_fieldAddr rfl Try.underlying78 rfl Try.sizeOf73 rfl rfl) rfl rfl ?_
      refine d_q rfl (q_loadC rfl Try.isAgg73 rfl (fun _ h => h.at 0 rfl) rfl) rfl rfl ?_
      refine d_q rfl (q_move rfl rfl) rfl rfl ?_
      refine d_q rfl (q_nilCheck rfl rfl) rfl rfl ?_
      refine d_q rfl (q_fieldAddr rfl Try.underlying80 rfl Try.sizeOf3 rfl rfl) rfl rfl ?_
      refine d_q rfl (q_loadV k 1 rfl Try.isAgg3 rfl rfl (fun _ h => h.rd 1 rfl) hfk rfl) rfl rfl ?_
      refine d_q rfl (q_move rfl rfl) rfl rfl ?_
      refine pull2 ?_
      refine d_t rfl ?_
      refine e_putT f.blk (i : Int) rfl rfl Try.underlying73 keyI rfl rfl rfl ?_
      refine d_nil ?_
      refine k_block ?_
      refine k_then ?_
      refine c_region _ rfl ?_
      refine l_q rfl (q_inc rfl rfl rfl (by omega)) rfl rfl ?_
      refine l_q rfl (q_move rfl rfl) rfl rfl ?_
      refine l_nil ?_
      refine pull4 ?_
      refine pull4 ?_
      refine pull2 ?_
      refine pull4 ?_
      refine pull4 ?_
      exact k_round (i + 1) (by omega) (by omega) (Sub.cons rfl (Sub.cons rfl (Sub.cons rfl (Sub.cons rfl (Sub.nil))))) (fun _ h => by rw [if_pos (show k < i + 1 by omega)]; subst hik; exact h)
    · try simp only [decide_eq_true_eq, decide_eq_false_iff_not, Bool.not_eq_true', Bool.not_eq_false'] at h2
      simp only [show FC.enc.sz = 11 from rfl] at h2
      have hkk : (k < i + 1) = (k < i) := propext (by omega)
      refine c_false rfl ?_
      refine c_skip ?_
      refine k_block ?_
      refine k_then ?_
      refine c_region _ rfl ?_
      refine l_q rfl (q_inc rfl rfl rfl (by omega)) rfl rfl ?_
      refine l_q rfl (q_move rfl rfl) rfl rfl ?_
      refine l_nil ?_
      exact k_round (i + 1) (by omega) (by omega) (Sub.cons rfl (Sub.cons rfl (Sub.cons rfl (Sub.cons rfl (Sub.nil))))) (fun _ h => by simpa only [hkk] using h)
  · try simp only [decide_eq_true_eq, decide_eq_false_iff_not, Bool.not_eq_true', Bool.not_eq_false'] at h1
    have hki : k < i := by omega
    rw [if_pos hki]
    refine c_false rfl ?_
    refine c_exit ?_
    refine k_then_exit ?_
    refine k_then_exit ?_
    refine k_block_exit ?_
    refine r_normal ?_
    refine r_none rfl ?_
    exact fun _ h => ⟨(), rfl, trivial, h⟩
end Go.Proofs.Ytpfbagkjhchojaa
