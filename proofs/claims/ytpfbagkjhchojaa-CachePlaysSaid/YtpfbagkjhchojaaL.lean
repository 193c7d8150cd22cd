/- cache: Evict -/
import Derived.Test.YtpfbagkjhchojaaK
set_option linter.unusedVariables false
set_option linter.unusedSimpArgs false
namespace Go.Proofs.Ytpfbagkjhchojaa
open Go.Sep Go.RowKit

def nints (l : List Nat) : List Int := l.map (fun k : Nat => (k : Int))
theorem gb {l : List Bool} {k : Nat} (h : k < l.length) : l[k]? = some (l.getD k false) := by simp [List.getD_eq_getElem?_getD, h]
/-- Who goes, one behind the other. -/
def ordM : Nat → List Bool → List Bool → Int → List Nat
  | 0, _, _, _ => []
  | m + 1, cs, rs, hd => match (swM cs rs hd).1 with
    | none => []
    | some k => k :: ordM m (cs.set k false) (swM cs rs hd).2 (((k + 1) % cs.length : Nat) : Int)
theorem scn_can {cs : List Bool} : ∀ (ks : List Nat) (l : List Bool) (k : Nat), (scn cs ks l).1 = some k → cs.getD k false = true
  | [], l, k, h => by cases h
  | x :: ks, l, k, h => by
    unfold scn at h
    split at h
    · rename_i hc
      split at h
      · exact scn_can ks _ k h
      · cases h; exact hc
    · exact scn_can ks l k h
theorem sw_can {cs rs : List Bool} {hd : Int} {k : Nat} (h : (swM cs rs hd).1 = some k) : cs.getD k false = true ∧ k < cs.length ∧ ¬ (cs = [] ∨ rs.length ≠ cs.length) := by
  unfold swM at h
  split at h
  · cases h
  · rename_i hb
    have hc := scn_can _ _ _ h
    refine ⟨hc, ?_, hb⟩
    rcases Nat.lt_or_ge k cs.length with h1 | h1
    · exact h1
    · rw [List.getD_eq_getElem?_getD, List.getElem?_eq_none h1] at hc; cases hc
theorem sw_some {cs rs : List Bool} {hd : Int} {k : Nat} (h : (swM cs rs hd).1 = some k) : swP cs rs hd = (k : Int) ∧ swN cs rs hd = (((k + 1) % cs.length : Nat) : Int) := by
  have hb := (sw_can h).2.2
  unfold swP swN
  rw [h, if_neg hb]
  exact ⟨rfl, rfl⟩
theorem sw_none {cs rs : List Bool} {hd : Int} : swP cs rs hd < 0 ↔ (swM cs rs hd).1 = none := by
  unfold swP
  cases (swM cs rs hd).1 with
  | none => simp
  | some k => simp; try omega
theorem cnt_set {cs : List Bool} {k : Nat} (h : cs.getD k false = true) : (cs.set k false).count true + 1 = cs.count true := by
  induction cs generalizing k with
  | nil => simp at h
  | cons c cs ih =>
    cases k with
    | zero => simp at h; subst h; simp
    | succ k =>
      have := ih (k := k) (by simpa using h)
      simp only [List.set_cons_succ, List.count_cons]
      omega
theorem ord_some {cs rs : List Bool} {hd : Int} {k m : Nat} (h : (swM cs rs hd).1 = some k) : ordM (m + 1) cs rs hd = k :: ordM m (cs.set k false) (swM cs rs hd).2 (swN cs rs hd) := by
  rw [(sw_some h).2]
  conv => lhs; unfold ordM
  rw [h]
theorem ord_none {cs rs : List Bool} {hd : Int} {m : Nat} (h : (swM cs rs hd).1 = none) : ordM m cs rs hd = [] := by
  cases m with
  | zero => rfl
  | succ m => unfold ordM; rw [h]
theorem ord_fuel : ∀ (m : Nat) (cs rs : List Bool) (hd : Int), cs.count true < m → ordM m cs rs hd = ordM (cs.count true + 1) cs rs hd
  | 0, cs, rs, hd, h => by omega
  | m + 1, cs, rs, hd, h => by
    cases hs : (swM cs rs hd).1 with
    | none => rw [ord_none hs, ord_none hs]
    | some k =>
      have hc := cnt_set (sw_can hs).1
      rw [ord_some hs, ord_some hs, ord_fuel m _ _ _ (by omega), ← hc]
theorem cnt_le (cs : List Bool) : cs.count true ≤ cs.length := List.count_le_length
theorem wf_mod {k n : Nat} (hn : n ≤ 65536) (h0 : 0 < n) : (Lit.int .i64 ((k % n : Nat) : Int)).wf = true := by
  have := Nat.mod_lt k h0
  simp only [Lit.wf, Bool.and_eq_true, decide_eq_true_eq]
  exact ⟨by show (-2 ^ 63 : Int) ≤ _; omega, by show _ ≤ (2 ^ 63 - 1 : Int); omega⟩
theorem wf_next {cs rs : List Bool} {hd : Int} {k : Nat} (h : (swM cs rs hd).1 = some k) (hn : cs.length ≤ 65536) : (Lit.int .i64 (swN cs rs hd)).wf = true := by
  rw [(sw_some h).2]
  exact wf_mod hn (by have := (sw_can h).2.1; omega)
theorem snoc_nints (a : List Int) (k : Nat) (l : List Nat) : (a ++ [(k : Int)]) ++ nints l = a ++ nints (k :: l) := by simp [nints]

section
variable {P : Program} {n : Nat} {L : Env} {X : World → Prop} {fn : Func} {R : Ending → World → Prop}
theorem r_res4 {a1 a2 a3 a4 : ResultVar} {u v x y : Value} (hr : fn.results = #[a1, a2, a3, a4]) (h1 : ResOK P L X a1 u) (h2 : ResOK P L X a2 v) (h3 : ResOK P L X a3 x) (h4 : ResOK P L X a4 y) (hR : ∀ w, X w → R (.returned (.tuple #[u, v, x, y])) w) : Pre n L X (bodyPost P fn R .ret) := fun a w k z =>
  ⟨k.defers, _, by rw [results_eq, hr]; simp [resOne_run k z h1, resOne_run k z h2, resOne_run k z h3, resOne_run k z h4], hR w z⟩
end
section
variable {P : Program} {n : Nat} {L : Env} {X : World → Prop} {Q : Exit → Act → World → Prop} {S : World → Prop} {l : List Oper} {listed : Array Bool} {k : Nat}
theorem a_not {o : Oper} {d : Nat} (hB : Blind Q) (i : Nat) (hi : l[i]? = some o) (hs : Region.noSelect l.toArray = true) (hf : Region.free .any l.toArray listed i = true) (hr : (Region.ready .any l.toArray listed).contains i = true) (hXS : ∀ w, X w → S w) (hd : o.dst = some d) (hw : wantL l.toArray L o = some false) (hn : d.blt n = true)
    (h : Pre n ((d, undef) :: L) X (wpAnyH P .any l.toArray Q S k (listed.setIfInBounds i true))) : Pre n L X (wpAnyH P .any l.toArray Q S (k + 1) listed) := fun a w kn x =>
  wpAnyH_take (v := undef) (by rw [List.getElem?_toArray]; exact hi) hs hf hr (fun c a w h => hB c a _ _ w h) (Or.inr ⟨wantL_spec kn hw, rfl⟩) (hXS w x) (by
    rw [hd]; exact h _ _ (kn.put undef hn) x)
end
section
variable {P : Program} {n : Nat} {L : Env} {X : World → Prop} {o : Oper} {α : Type} {E : Enc α} {v : Value}
theorem q_indexL {t e : TypeId} {x i : Operand} {k : IntKind} {p : Int} (j n0 : Nat) (ho : o.op = .indexAddr t x i) (ht : P.underlying t = some (.slice e)) (hz : ∀ w, (sizeOf e).run P w = .ok E.sz w) (hx : ev L x = some v) (hr : ∀ w, X w → ∃ l : List α, l.length = n0 ∧ RdV w v E l) (hi : ev L i = some (.int k p)) (hp : p = (j : Int)) (hj : j < n0) :
    QOp P n L X o (.pointer (some ⟨blk v, offs v + j * E.sz, none⟩)) := fun a w kn hX => by
  obtain ⟨l, hl, h⟩ := hr w hX
  exact q_indexV (X := fun w' => w' = w) j ho ht hz hx (fun w' e => by subst e; exact h) hi hp (by omega) a w kn rfl
end
/-! ## A frame goes -/
def canF (f : FC) : Bool := decide (f.st = 2) && decide (f.pins = 0)
theorem can_eq {S : CS} {M : Mo} (h : Rel S M) : M.can = S.fl.map canF := by unfold Mo.can; rw [← h.fr, List.map_map]; rfl
theorem rfs_eq {S : CS} {M : Mo} (h : Rel S M) : M.rfs = S.fl.map FC.ref := by unfold Mo.rfs; rw [← h.fr, List.map_map]; rfl
/-- Frames with other refs. -/
def reF (fl : List FC) (l : List Bool) : List FC := (fl.zip l).map (fun p => { p.1 with ref := p.2 })
theorem reF_len {fl : List FC} {l : List Bool} (h : l.length = fl.length) : (reF fl l).length = fl.length := by unfold reF; rw [List.length_map, List.length_zip]; omega
theorem reF_get {fl : List FC} {l : List Bool} {i : Nat} {f : FC} {b : Bool} (hf : fl[i]? = some f) (hb : l[i]? = some b) : (reF fl l)[i]? = some { f with ref := b } := by
  unfold reF; rw [List.getElem?_map, (List.getElem?_zip_eq_some (z := (f, b))).2 ⟨hf, hb⟩]; rfl
theorem re_map (fl : List FC) (l : List Bool) : (reF fl l).map vw = Mo.reref (fl.map vw) l := by
  unfold reF Mo.reref
  rw [List.map_map, List.zip_map_left, List.map_map]; rfl
theorem mix_step {fl gl : List FC} {i : Nat} {g : FC} (h : gl[i]? = some g) (hl : gl.length = fl.length) : (gl.take i ++ fl.drop i).set i g = gl.take (i + 1) ++ fl.drop (i + 1) := by
  have hi := (List.getElem?_eq_some_iff.1 h).1
  have ht : (gl.take i).length = i := by rw [List.length_take]; omega
  rw [List.set_append_right _ _ (by omega), ht, Nat.sub_self, List.take_add_one, h, List.drop_eq_getElem_cons (by omega), List.set_cons_zero]
  simp [List.append_assoc]
theorem mix_get {fl gl : List FC} {i : Nat} {f : FC} (h : fl[i]? = some f) (hl : gl.length = fl.length) : (gl.take i ++ fl.drop i)[i]? = some f := by
  have hi := (List.getElem?_eq_some_iff.1 h).1
  rw [List.getElem?_append_right (by rw [List.length_take]; omega), List.length_take, Nat.min_eq_left (by omega), Nat.sub_self, List.getElem?_drop]; exact h
theorem scn_len (cs : List Bool) : ∀ (ks : List Nat) (l : List Bool), (scn cs ks l).2.length = l.length
  | [], l => rfl
  | k :: ks, l => by
    unfold scn
    split
    · split
      · rw [scn_len cs ks _, List.length_set]
      · rfl
    · exact scn_len cs ks l
theorem left_len {cs rs : List Bool} {hd : Int} (h : rs.length = cs.length) (hc : cs ≠ []) : (swM cs rs hd).2.length = cs.length := by
  unfold swM
  rw [if_neg (by rintro (e | e); exact hc e; exact e h), scn_len, h]
def evV (o : Option Vw) (nv : NV) : Value := match o with
  | none => .tuple #[.int .i64 0, .agg nv0.c.toArray, .bool false, .bool false]
  | some f => .tuple #[.int .i64 f.blk, .agg nv.c.toArray, .bool f.dirty, .bool true]
theorem evict_none {M : Mo} (h : (swM M.can M.rfs M.hand).1 = none) : M.evict = (none, M) := by unfold Mo.evict; rw [h]
theorem evict_some {M : Mo} {k : Nat} {y : Vw} (h : (swM M.can M.rfs M.hand).1 = some k) (hy : M.fr[k]? = some y) : M.evict = (some y, { M with fr := (Mo.reref M.fr (swM M.can M.rfs M.hand).2).set k free0, hand := swN M.can M.rfs M.hand }) := by unfold Mo.evict; rw [h]; simp only; rw [at_eq hy]
theorem reref_len {fr : List Vw} {l : List Bool} (h : l.length = fr.length) : (Mo.reref fr l).length = fr.length := by unfold Mo.reref; rw [List.length_map, List.length_zip]; omega
theorem reref_get {fr : List Vw} {l : List Bool} (h : l.length = fr.length) (i : Nat) : (Mo.reref fr l)[i]? = (fr[i]?).map (fun f => { f with ref := l.getD i false }) := by
  unfold Mo.reref
  rw [List.getElem?_map]
  cases hf : fr[i]? with
  | none => rw [List.getElem?_eq_none (by rw [List.length_zip]; have := List.getElem?_eq_none_iff.1 hf; omega)]; rfl
  | some f =>
    have hi := (List.getElem?_eq_some_iff.1 hf).1
    have hb : l[i]? = some (l.getD i false) := by simp [List.getD_eq_getElem?_getD, show i < l.length by omega]
    rw [(List.getElem?_zip_eq_some (z := (f, l.getD i false))).2 ⟨hf, hb⟩]; rfl
/-- Where only refs are others nothing else is found. -/
theorem reref_fst {p : Vw → Bool} (hp : ∀ (f : Vw) (b : Bool), p { f with ref := b } = p f) : ∀ {fr : List Vw} {l : List Bool}, l.length = fr.length → fst1 p (Mo.reref fr l) = fst1 p fr
  | [], [], _ => rfl
  | [], _ :: _, h => by simp at h
  | f :: fr, [], h => by simp at h
  | f :: fr, b :: l, h => by
    have ih := reref_fst hp (fr := fr) (l := l) (by simpa using h)
    unfold Mo.reref fst1 at ih ⊢
    simp only [List.zip_cons_cons, List.map_cons, List.findIdx?_cons, hp, ih]
theorem evict_find {M : Mo} {B : Nat} (hO : M.Ok B) {k : Nat} {y : Vw} (h : (swM M.can M.rfs M.hand).1 = some k) (hy : M.fr[k]? = some y) (hs : y.st = 2) (hl : (swM M.can M.rfs M.hand).2.length = M.fr.length) (b : Int) : M.evict.2.find b = if b = y.blk then none else M.find b := by
  rw [evict_some h hy]
  show fst1 (isB b) ((Mo.reref M.fr (swM M.can M.rfs M.hand).2).set k free0) = _
  have hg := reref_get hl
  have hf0 : isB b free0 = false := by unfold isB free0; simp
  split
  · rename_i e
    refine fst1_none (fun z hz => ?_)
    obtain ⟨j, hj⟩ := List.mem_iff_getElem?.1 hz
    rw [List.getElem?_set] at hj
    split at hj
    · split at hj
      · cases hj; exact hf0
      · cases hj
    · rename_i hjk
      rw [hg, Option.map_eq_some_iff] at hj
      obtain ⟨g, hg1, rfl⟩ := hj
      cases hb : isB b { g with ref := (swM M.can M.rfs M.hand).2.getD j false } with
      | false => rfl
      | true =>
        unfold isB at hb
        simp only [Bool.and_eq_true, Bool.or_eq_true, decide_eq_true_eq] at hb
        exact absurd (hO.uni k j y g hy hg1 (.inr hs) hb.2 (by rw [hb.1, e])) hjk
  · rename_i e
    have hk : (Mo.reref M.fr (swM M.can M.rfs M.hand).2)[k]? = some { y with ref := (swM M.can M.rfs M.hand).2.getD k false } := by rw [hg, hy]; rfl
    rw [fst1_set hk (by rw [hf0]; unfold isB; rw [decide_eq_false (fun e' => e e'.symm)]; rfl)]
    exact reref_fst (fun f b => rfl) hl
theorem at_unlike {S : CS} {M : Mo} (hR : Rel S M) {f : Int} : ((mdelT f S.at').map Prod.fst).Sublist (S.at'.map Prod.fst) := mdel_keys f S.at'
theorem Rel.evict {S : CS} {M : Mo} {B : Nat} (h : Rel S M) (hO : M.Ok B) {k : Nat} {f : FC} (hs : (swM M.can M.rfs M.hand).1 = some k) (hf : S.fl[k]? = some f) (h2 : f.st = 2) (hl : (swM M.can M.rfs M.hand).2.length = M.fr.length) : Rel { S with fl := (reF S.fl (swM M.can M.rfs M.hand).2).set k fE, at' := mdelT f.blk S.at', hand := swN M.can M.rfs M.hand } M.evict.2 := by
  have hy := h.vw_at hf
  have hfind := evict_find hO hs hy h2 hl
  have he := evict_some hs hy
  have hn := h.na
  refine ⟨?_, ?_, ?_, fun b => ?_, ?_, h.nd, h.na.sublist (mdel_keys f.blk S.at')⟩
  · show ((reF S.fl (swM M.can M.rfs M.hand).2).set k fE).map vw = _
    rw [he, List.map_set, re_map, h.fr]; rfl
  · rw [he]; exact h.ln
  · rw [he]
  · rw [hfind b]
    by_cases e : b = f.blk
    · subst e; rw [if_pos (show f.blk = (vw f).blk from rfl)]; show mget f.blk (mdelT f.blk S.at') = _; rw [mget_del_same hn]; rfl
    · rw [if_neg (show ¬ b = (vw f).blk from e)]; show mget b (mdelT f.blk S.at') = _; rw [mget_delT (fun e' => e e'.symm)]; exact h.at' b
  · rw [he]; exact h.ld

set_option maxRecDepth 100000 in
set_option maxHeartbeats 1000000 in
theorem evict_spec {bc : Nat} {S : CS} {M : Mo} {B : Nat} (hR : Rel S M) (hO : M.Ok B) : Con Try.prog 20 [.pointer (some ⟨bc, 0, none⟩)] (fun _ => True) (S.H bc) (fun r : CS × NV => evV M.evict.1 r.2) (fun r => Rel r.1 M.evict.2 ∧ (∀ G, NIn G S.fl → NIn G r.1.fl ∧ ((r.2.e = sv0 ∧ r.2.l = []) ∨ nrow r.2 ∈ G)) ∧ ∀ f, M.evict.1 = some f → r.2.leaf = f.leaf ∧ r.2.l = f.es) (fun r => r.1.H bc) := by
  intro w hE hH
  refine enter (n := 105) (vs := [.pointer (some ⟨bc, 0, none⟩)]) (St w (dom (S.H bc)) (cellsE bc 78 (S).cells :: rowE (S).vF 80 FC.enc (S).fl :: mapT (S).bA kI kI (S).at' :: mapT (S).bL kI vS (S).ld :: rowE (S).vL 83 Wn.enc (S).ln :: (S).rows)) Try.func20 rfl rfl rfl (St.init hH) ?_
  refine c_seq ?_
  have h64 := hO.n64
  have h1n := hO.n1
  have hfl := hR.len
  refine c_region _ rfl ?_
  refine l_q rfl (q_assign rfl rfl) rfl rfl ?_
  refine l_e rfl ?_
  refine e_alloc rfl rfl rfl Try.zeroValue37 ?_
  intro bo
  refine cells_eq (show _ = nv0.c from rfl) ?_
  refine l_q rfl (q_assign rfl rfl) rfl rfl ?_
  refine l_q rfl (q_assign rfl rfl) rfl rfl ?_
  refine l_nil ?_
  refine k_then ?_
  refine c_seq ?_
  refine c_region _ rfl ?_
  refine l_q rfl (q_assign rfl rfl) rfl rfl ?_
  refine l_q rfl (q_assign rfl rfl) rfl rfl ?_
  refine l_nil ?_
  refine k_then ?_
  refine c_seq ?_
  refine c_seq ?_
  refine c_region _ rfl ?_
  refine l_q rfl (q_move rfl rfl) rfl rfl ?_
  refine l_q rfl (q_nilCheck rfl rfl) rfl rfl ?_
  refine l_q rfl (q_fieldAddr rfl Try.underlying78 rfl Try.sizeOf75 rfl rfl) rfl rfl ?_
  refine l_q rfl (q_loadC rfl Try.isAgg75 rfl (fun _ h => h.at 1 rfl) rfl) rfl rfl ?_
  refine l_q rfl (q_lenV rfl Try.underlying75 rfl (fun _ h => h.rd 2 rfl)) rfl rfl ?_
  refine l_q rfl (q_move rfl rfl) rfl rfl ?_
  refine l_nil ?_
  refine k_then ?_
  refine c_block ?_
  refine row0 4 encB none ?_
  refine row0 4 encB none ?_
  refine c_loop3 (fun (i : Nat) (v1 : Value) (v2 : Value) => [(0, .pointer (some ⟨bc, 0, none⟩)), (3, .pointer (some ⟨bo, 0, none⟩)), (6, v1), (7, v2), (18, S.vF), (19, .int .i64 (S.fl.length : Int)), (20, .int .i64 (i : Int))]) (fun (i : Nat) (v1 : Value) (v2 : Value) => St w (dom (S.H bc)) (rowE v1 4 encB ((S.fl.take i).map canF) :: rowE v2 4 encB ((S.fl.take i).map FC.ref) :: cellsE bo 37 nv0.c :: cellsE bc 78 (S).cells :: rowE (S).vF 80 FC.enc (S).fl :: mapT (S).bA kI kI (S).at' :: mapT (S).bL kI vS (S).ld :: rowE (S).vL 83 Wn.enc (S).ln :: (S).rows)) (fun (i : Nat) (v1 : Value) (v2 : Value) => i ≤ S.fl.length) (fun (i : Nat) (v1 : Value) (v2 : Value) => S.fl.length - i) (0) (.slice none 0 0) (.slice none 0 0) (Nat.zero_le _) (Sub.cons rfl (Sub.cons rfl (Sub.cons rfl (Sub.cons rfl (Sub.cons rfl (Sub.cons rfl (Sub.cons rfl (Sub.nil)))))))) (fun _ h => h) ?_
  intro i v1 v2 hi
  refine c_seq ?_
  have hcl : ((S.fl.take i).map canF).length ≤ i := by rw [List.length_map, List.length_take]; omega
  have hrl : ((S.fl.take i).map FC.ref).length ≤ i := by rw [List.length_map, List.length_take]; omega
  refine c_region _ rfl ?_
  refine l_q rfl (q_lss rfl rfl rfl) rfl rfl ?_
  refine l_nil ?_
  refine k_then ?_
  refine c_seq ?_
  refine Pre.caseB 21 rfl (fun h1 => ?_) (fun h1 => ?_)
  · try simp only [decide_eq_true_eq, decide_eq_false_iff_not, Bool.not_eq_true', Bool.not_eq_false'] at h1
    obtain ⟨f, hfi⟩ : ∃ f, S.fl[i]? = some f := ⟨_, List.getElem?_eq_getElem (by omega)⟩
    refine c_true rfl ?_
    refine c_skip ?_
    refine k_then ?_
    refine c_seq ?_
    refine c_block ?_
    refine c_seq ?_
    refine c_region _ rfl ?_
    refine l_q rfl (q_indexV i rfl Try.underlying75 Try.sizeOf80 rfl (fun _ h => h.rd 4 rfl) rfl rfl (by omega)) rfl rfl ?_
    refine l_q rfl (q_loadVAgg i rfl Try.isAgg80 Try.sizeOf80 rfl rfl (fun _ h => h.rd 4 rfl) hfi) rfl rfl ?_
    refine l_e rfl ?_
    refine e_alloc rfl rfl rfl Try.zeroValue80 ?_
    intro be
    refine l_e rfl ?_
    refine e_storeAgg rfl rfl Try.sizeOf80 rfl rfl rfl (FC.one _) (by show 0 + 11 ≤ 11; decide) ?_
    refine cells_eq (show Sep.splice _ 0 (f).c = (f).c from Sep.splice_all rfl) ?_
    refine l_nil ?_
    refine k_then ?_
    have hcs : ((S.fl.take i).map canF) ++ [canF f] = ((S.fl.take (i + 1)).map canF) := by rw [List.take_add_one, hfi, List.map_append]; rfl
    have hrs : ((S.fl.take i).map FC.ref) ++ [f.ref] = ((S.fl.take (i + 1)).map FC.ref) := by rw [List.take_add_one, hfi, List.map_append]; rfl
    refine c_any (fun w2 => (cellsE be 80 f.c).at w2) rfl St.drawn ?_
    refine a_q (blind_block (blind_then (blind_then (blind_block (blind_then blind_body))))) 0 rfl (by kernel_rfl) (by kernel_rfl) (by kernel_rfl) (fun _ h => h.at 0 rfl) rfl (q_move rfl rfl) rfl rfl ?_
    refine a_q (blind_block (blind_then (blind_then (blind_block (blind_then blind_body))))) 1 rfl (by kernel_rfl) (by kernel_rfl) (by kernel_rfl) (fun _ h => h.at 0 rfl) rfl (q_fieldAddr rfl Try.underlying80 rfl Try.sizeOf3 rfl rfl) rfl rfl ?_
    refine a_q (blind_block (blind_then (blind_then (blind_block (blind_then blind_body))))) 2 rfl (by kernel_rfl) (by kernel_rfl) (by kernel_rfl) (fun _ h => h.at 0 rfl) rfl (q_loadC rfl Try.isAgg3 rfl (fun _ h => h) rfl) rfl rfl ?_
    refine a_q (blind_block (blind_then (blind_then (blind_block (blind_then blind_body))))) 3 rfl (by kernel_rfl) (by kernel_rfl) (by kernel_rfl) (fun _ h => h.at 0 rfl) rfl (q_eql rfl rfl rfl) rfl rfl ?_
    refine a_q (blind_block (blind_then (blind_then (blind_block (blind_then blind_body))))) 4 rfl (by kernel_rfl) (by kernel_rfl) (by kernel_rfl) (fun _ h => h.at 0 rfl) rfl (q_move rfl rfl) rfl rfl ?_
    refine Pre.caseB 28 rfl (fun h2 => ?_) (fun h2 => ?_)
    · try simp only [decide_eq_true_eq, decide_eq_false_iff_not, Bool.not_eq_true', Bool.not_eq_false'] at h2
      have hcf : canF f = decide (f.pins = 0) := by unfold canF; rw [decide_eq_true h2, Bool.true_and]
      rw [hcf] at hcs
      refine a_q (blind_block (blind_then (blind_then (blind_block (blind_then blind_body))))) 5 rfl (by kernel_rfl) (by kernel_rfl) (by kernel_rfl) (fun _ h => h.at 0 rfl) rfl (q_fieldAddr rfl Try.underlying80 rfl Try.sizeOf3 rfl rfl) rfl rfl ?_
      refine a_q (blind_block (blind_then (blind_then (blind_block (blind_then blind_body))))) 6 rfl (by kernel_rfl) (by kernel_rfl) (by kernel_rfl) (fun _ h => h.at 0 rfl) rfl (q_loadC rfl Try.isAgg3 rfl (fun _ h => h) rfl) rfl rfl ?_
      refine a_q (blind_block (blind_then (blind_then (blind_block (blind_then blind_body))))) 7 rfl (by kernel_rfl) (by kernel_rfl) (by kernel_rfl) (fun _ h => h.at 0 rfl) rfl (q_eql rfl rfl rfl) rfl rfl ?_
      refine a_q (blind_block (blind_then (blind_then (blind_block (blind_then blind_body))))) 8 rfl (by kernel_rfl) (by kernel_rfl) (by kernel_rfl) (fun _ h => h.at 0 rfl) rfl (q_pick_t rfl rfl rfl) rfl rfl ?_
      refine a_q (blind_block (blind_then (blind_then (blind_block (blind_then blind_body))))) 11 rfl (by kernel_rfl) (by kernel_rfl) (by kernel_rfl) (fun _ h => h.at 0 rfl) rfl (q_move rfl rfl) rfl rfl ?_
      refine a_q (blind_block (blind_then (blind_then (blind_block (blind_then blind_body))))) 12 rfl (by kernel_rfl) (by kernel_rfl) (by kernel_rfl) (fun _ h => h.at 0 rfl) rfl (q_fieldAddr rfl Try.underlying80 rfl Try.sizeOf4 rfl rfl) rfl rfl ?_
      refine a_q (blind_block (blind_then (blind_then (blind_block (blind_then blind_body))))) 13 rfl (by kernel_rfl) (by kernel_rfl) (by kernel_rfl) (fun _ h => h.at 0 rfl) rfl (q_loadC rfl Try.isAgg4 rfl (fun _ h => h) rfl) rfl rfl ?_
      refine a_all2 9 14 (by kernel_rfl) rfl rfl rfl rfl ?_ ?_ 
      · refine e_buildSliceV (sz := 1) [.tmp 32] rfl rfl rfl rfl rfl Try.underlying49 Try.sizeOf4 rfl Try.zeroValue4 rfl ?_
        intro b1
        refine d_held (fun _ h => h.at 1 rfl) ?_
        refine a_all2 10 14 (by kernel_rfl) rfl rfl rfl rfl ?_ ?_ 
        · refine pull2 ?_
          refine e_append rfl rfl rfl Try.underlying49 Try.underlying49 info4 rfl rfl rfl rfl rfl (fun _ h => lit_rd (h.at 1 rfl) encB [(decide (f.pins = 0))] rfl rfl) (by simp only [byt4, List.length_append, List.length_cons, List.length_nil]; omega) (by simp only [List.length_append, List.length_cons, List.length_nil]; omega) ?_
          intro vk
          refine row_eq (hcs) ?_
          refine pull1 ?_
          refine drop0 ?_
          refine d_held (fun _ h => h.at 1 rfl) ?_
          refine a_all1 14 (by kernel_rfl) rfl rfl ?_
          refine e_buildSliceV (sz := 1) [.tmp 37] rfl rfl rfl rfl rfl Try.underlying49 Try.sizeOf4 rfl Try.zeroValue4 rfl ?_
          intro b2
          refine d_held (fun _ h => h.at 2 rfl) ?_
          refine pull3 ?_
          refine a_all1 15 (by kernel_rfl) rfl rfl ?_
          refine e_append rfl rfl rfl Try.underlying49 Try.underlying49 info4 rfl rfl rfl rfl rfl (fun _ h => lit_rd (h.at 1 rfl) encB [f.ref] rfl rfl) (by simp only [byt4, List.length_append, List.length_cons, List.length_nil]; omega) (by simp only [List.length_append, List.length_cons, List.length_nil]; omega) ?_
          intro vr
          refine row_eq (hrs) ?_
          refine pull1 ?_
          refine drop0 ?_
          refine d_held (fun _ h => h.at 2 rfl) ?_
          refine a_q (blind_block (blind_then (blind_then (blind_block (blind_then blind_body))))) 16 rfl (by kernel_rfl) (by kernel_rfl) (by kernel_rfl) (fun _ h => h.at 2 rfl) rfl (q_assign rfl rfl) rfl rfl ?_
          refine a_q (blind_block (blind_then (blind_then (blind_block (blind_then blind_body))))) 17 rfl (by kernel_rfl) (by kernel_rfl) (by kernel_rfl) (fun _ h => h.at 2 rfl) rfl (q_assign rfl rfl) rfl rfl ?_
          refine a_nil (by kernel_rfl) ?_
          refine k_block ?_
          refine k_then ?_
          refine c_region _ rfl ?_
          refine l_q rfl (q_inc rfl rfl rfl (by omega)) rfl rfl ?_
          refine l_q rfl (q_move rfl rfl) rfl rfl ?_
          refine l_nil ?_
          refine pull2 ?_
          refine drop0 ?_
          refine pull7 ?_
          refine pull7 ?_
          refine pull7 ?_
          refine pull7 ?_
          refine pull7 ?_
          refine pull7 ?_
          refine pull6 ?_
          refine pull7 ?_
          exact k_round ((i + 1, vk, vr)) (by dsimp only; omega) (by dsimp only; omega) (Sub.cons rfl (Sub.cons rfl (Sub.cons rfl (Sub.cons rfl (Sub.cons rfl (Sub.cons rfl (Sub.cons rfl (Sub.nil)))))))) (fun _ h => h)
        · refine e_buildSliceV (sz := 1) [.tmp 37] rfl rfl rfl rfl rfl Try.underlying49 Try.sizeOf4 rfl Try.zeroValue4 rfl ?_
          intro b3
          refine d_held (fun _ h => h.at 2 rfl) ?_
          refine pull3 ?_
          refine a_all1 10 (by kernel_rfl) rfl rfl ?_
          refine e_append rfl rfl rfl Try.underlying49 Try.underlying49 info4 rfl rfl rfl rfl rfl (fun _ h => lit_rd (h.at 2 rfl) encB [(decide (f.pins = 0))] rfl rfl) (by simp only [byt4, List.length_append, List.length_cons, List.length_nil]; omega) (by simp only [List.length_append, List.length_cons, List.length_nil]; omega) ?_
          intro vk
          refine row_eq (hcs) ?_
          refine pull2 ?_
          refine drop0 ?_
          refine d_held (fun _ h => h.at 2 rfl) ?_
          refine pull3 ?_
          refine a_all1 15 (by kernel_rfl) rfl rfl ?_
          refine e_append rfl rfl rfl Try.underlying49 Try.underlying49 info4 rfl rfl rfl rfl rfl (fun _ h => lit_rd (h.at 2 rfl) encB [f.ref] rfl rfl) (by simp only [byt4, List.length_append, List.length_cons, List.length_nil]; omega) (by simp only [List.length_append, List.length_cons, List.length_nil]; omega) ?_
          intro vr
          refine row_eq (hrs) ?_
          refine pull2 ?_
          refine drop0 ?_
          refine d_held (fun _ h => h.at 2 rfl) ?_
          refine a_q (blind_block (blind_then (blind_then (blind_block (blind_then blind_body))))) 16 rfl (by kernel_rfl) (by kernel_rfl) (by kernel_rfl) (fun _ h => h.at 2 rfl) rfl (q_assign rfl rfl) rfl rfl ?_
          refine a_q (blind_block (blind_then (blind_then (blind_block (blind_then blind_body))))) 17 rfl (by kernel_rfl) (by kernel_rfl) (by kernel_rfl) (fun _ h => h.at 2 rfl) rfl (q_assign rfl rfl) rfl rfl ?_
          refine a_nil (by kernel_rfl) ?_
          refine k_block ?_
          refine k_then ?_
          refine c_region _ rfl ?_
          refine l_q rfl (q_inc rfl rfl rfl (by omega)) rfl rfl ?_
          refine l_q rfl (q_move rfl rfl) rfl rfl ?_
          refine l_nil ?_
          refine pull2 ?_
          refine drop0 ?_
          refine pull7 ?_
          refine pull7 ?_
          refine pull7 ?_
          refine pull7 ?_
          refine pull7 ?_
          refine pull7 ?_
          refine pull6 ?_
          refine pull7 ?_
          exact k_round ((i + 1, vk, vr)) (by dsimp only; omega) (by dsimp only; omega) (Sub.cons rfl (Sub.cons rfl (Sub.cons rfl (Sub.cons rfl (Sub.cons rfl (Sub.cons rfl (Sub.cons rfl (Sub.nil)))))))) (fun _ h => h)
      · refine e_buildSliceV (sz := 1) [.tmp 37] rfl rfl rfl rfl rfl Try.underlying49 Try.sizeOf4 rfl Try.zeroValue4 rfl ?_
        intro b4
        refine d_held (fun _ h => h.at 1 rfl) ?_
        refine a_all1 9 (by kernel_rfl) rfl rfl ?_
        refine e_buildSliceV (sz := 1) [.tmp 32] rfl rfl rfl rfl rfl Try.underlying49 Try.sizeOf4 rfl Try.zeroValue4 rfl ?_
        intro b5
        refine d_held (fun _ h => h.at 2 rfl) ?_
        refine pull3 ?_
        refine a_all1 10 (by kernel_rfl) rfl rfl ?_
        refine e_append rfl rfl rfl Try.underlying49 Try.underlying49 info4 rfl rfl rfl rfl rfl (fun _ h => lit_rd (h.at 1 rfl) encB [(decide (f.pins = 0))] rfl rfl) (by simp only [byt4, List.length_append, List.length_cons, List.length_nil]; omega) (by simp only [List.length_append, List.length_cons, List.length_nil]; omega) ?_
        intro vk
        refine row_eq (hcs) ?_
        refine pull1 ?_
        refine drop0 ?_
        refine d_held (fun _ h => h.at 2 rfl) ?_
        refine pull3 ?_
        refine a_all1 15 (by kernel_rfl) rfl rfl ?_
        refine e_append rfl rfl rfl Try.underlying49 Try.underlying49 info4 rfl rfl rfl rfl rfl (fun _ h => lit_rd (h.at 2 rfl) encB [f.ref] rfl rfl) (by simp only [byt4, List.length_append, List.length_cons, List.length_nil]; omega) (by simp only [List.length_append, List.length_cons, List.length_nil]; omega) ?_
        intro vr
        refine row_eq (hrs) ?_
        refine pull2 ?_
        refine drop0 ?_
        refine d_held (fun _ h => h.at 2 rfl) ?_
        refine a_q (blind_block (blind_then (blind_then (blind_block (blind_then blind_body))))) 16 rfl (by kernel_rfl) (by kernel_rfl) (by kernel_rfl) (fun _ h => h.at 2 rfl) rfl (q_assign rfl rfl) rfl rfl ?_
        refine a_q (blind_block (blind_then (blind_then (blind_block (blind_then blind_body))))) 17 rfl (by kernel_rfl) (by kernel_rfl) (by kernel_rfl) (fun _ h => h.at 2 rfl) rfl (q_assign rfl rfl) rfl rfl ?_
        refine a_nil (by kernel_rfl) ?_
        refine k_block ?_
        refine k_then ?_
        refine c_region _ rfl ?_
        refine l_q rfl (q_inc rfl rfl rfl (by omega)) rfl rfl ?_
        refine l_q rfl (q_move rfl rfl) rfl rfl ?_
        refine l_nil ?_
        refine pull2 ?_
        refine drop0 ?_
        refine pull7 ?_
        refine pull7 ?_
        refine pull7 ?_
        refine pull7 ?_
        refine pull7 ?_
        refine pull7 ?_
        refine pull6 ?_
        refine pull7 ?_
        exact k_round ((i + 1, vk, vr)) (by dsimp only; omega) (by dsimp only; omega) (Sub.cons rfl (Sub.cons rfl (Sub.cons rfl (Sub.cons rfl (Sub.cons rfl (Sub.cons rfl (Sub.cons rfl (Sub.nil)))))))) (fun _ h => h)
    · try simp only [decide_eq_true_eq, decide_eq_false_iff_not, Bool.not_eq_true', Bool.not_eq_false'] at h2
      have hcf : canF f = false := by unfold canF; rw [decide_eq_false h2, Bool.false_and]
      rw [hcf] at hcs
      refine a_not (blind_block (blind_then (blind_then (blind_block (blind_then blind_body))))) 5 rfl (by kernel_rfl) (by kernel_rfl) (by kernel_rfl) (fun _ h => h.at 0 rfl) rfl rfl rfl ?_
      refine a_not (blind_block (blind_then (blind_then (blind_block (blind_then blind_body))))) 6 rfl (by kernel_rfl) (by kernel_rfl) (by kernel_rfl) (fun _ h => h.at 0 rfl) rfl rfl rfl ?_
      refine a_not (blind_block (blind_then (blind_then (blind_block (blind_then blind_body))))) 7 rfl (by kernel_rfl) (by kernel_rfl) (by kernel_rfl) (fun _ h => h.at 0 rfl) rfl rfl rfl ?_
      refine a_q (blind_block (blind_then (blind_then (blind_block (blind_then blind_body))))) 8 rfl (by kernel_rfl) (by kernel_rfl) (by kernel_rfl) (fun _ h => h.at 0 rfl) rfl (q_pick_f rfl rfl rfl) rfl rfl ?_
      refine a_q (blind_block (blind_then (blind_then (blind_block (blind_then blind_body))))) 11 rfl (by kernel_rfl) (by kernel_rfl) (by kernel_rfl) (fun _ h => h.at 0 rfl) rfl (q_move rfl rfl) rfl rfl ?_
      refine a_q (blind_block (blind_then (blind_then (blind_block (blind_then blind_body))))) 12 rfl (by kernel_rfl) (by kernel_rfl) (by kernel_rfl) (fun _ h => h.at 0 rfl) rfl (q_fieldAddr rfl Try.underlying80 rfl Try.sizeOf4 rfl rfl) rfl rfl ?_
      refine a_q (blind_block (blind_then (blind_then (blind_block (blind_then blind_body))))) 13 rfl (by kernel_rfl) (by kernel_rfl) (by kernel_rfl) (fun _ h => h.at 0 rfl) rfl (q_loadC rfl Try.isAgg4 rfl (fun _ h => h) rfl) rfl rfl ?_
      refine a_all2 9 14 (by kernel_rfl) rfl rfl rfl rfl ?_ ?_ 
      · refine e_buildSliceV (sz := 1) [.tmp 32] rfl rfl rfl rfl rfl Try.underlying49 Try.sizeOf4 rfl Try.zeroValue4 rfl ?_
        intro b6
        refine d_held (fun _ h => h.at 1 rfl) ?_
        refine a_all2 10 14 (by kernel_rfl) rfl rfl rfl rfl ?_ ?_ 
        · refine pull2 ?_
          refine e_append rfl rfl rfl Try.underlying49 Try.underlying49 info4 rfl rfl rfl rfl rfl (fun _ h => lit_rd (h.at 1 rfl) encB [false] rfl rfl) (by simp only [byt4, List.length_append, List.length_cons, List.length_nil]; omega) (by simp only [List.length_append, List.length_cons, List.length_nil]; omega) ?_
          intro vk
          refine row_eq (hcs) ?_
          refine pull1 ?_
          refine drop0 ?_
          refine d_held (fun _ h => h.at 1 rfl) ?_
          refine a_all1 14 (by kernel_rfl) rfl rfl ?_
          refine e_buildSliceV (sz := 1) [.tmp 37] rfl rfl rfl rfl rfl Try.underlying49 Try.sizeOf4 rfl Try.zeroValue4 rfl ?_
          intro b7
          refine d_held (fun _ h => h.at 2 rfl) ?_
          refine pull3 ?_
          refine a_all1 15 (by kernel_rfl) rfl rfl ?_
          refine e_append rfl rfl rfl Try.underlying49 Try.underlying49 info4 rfl rfl rfl rfl rfl (fun _ h => lit_rd (h.at 1 rfl) encB [f.ref] rfl rfl) (by simp only [byt4, List.length_append, List.length_cons, List.length_nil]; omega) (by simp only [List.length_append, List.length_cons, List.length_nil]; omega) ?_
          intro vr
          refine row_eq (hrs) ?_
          refine pull1 ?_
          refine drop0 ?_
          refine d_held (fun _ h => h.at 2 rfl) ?_
          refine a_q (blind_block (blind_then (blind_then (blind_block (blind_then blind_body))))) 16 rfl (by kernel_rfl) (by kernel_rfl) (by kernel_rfl) (fun _ h => h.at 2 rfl) rfl (q_assign rfl rfl) rfl rfl ?_
          refine a_q (blind_block (blind_then (blind_then (blind_block (blind_then blind_body))))) 17 rfl (by kernel_rfl) (by kernel_rfl) (by kernel_rfl) (fun _ h => h.at 2 rfl) rfl (q_assign rfl rfl) rfl rfl ?_
          refine a_nil (by kernel_rfl) ?_
          refine k_block ?_
          refine k_then ?_
          refine c_region _ rfl ?_
          refine l_q rfl (q_inc rfl rfl rfl (by omega)) rfl rfl ?_
          refine l_q rfl (q_move rfl rfl) rfl rfl ?_
          refine l_nil ?_
          refine pull2 ?_
          refine drop0 ?_
          refine pull7 ?_
          refine pull7 ?_
          refine pull7 ?_
          refine pull7 ?_
          refine pull7 ?_
          refine pull7 ?_
          refine pull6 ?_
          refine pull7 ?_
          exact k_round ((i + 1, vk, vr)) (by dsimp only; omega) (by dsimp only; omega) (Sub.cons rfl (Sub.cons rfl (Sub.cons rfl (Sub.cons rfl (Sub.cons rfl (Sub.cons rfl (Sub.cons rfl (Sub.nil)))))))) (fun _ h => h)
        · refine e_buildSliceV (sz := 1) [.tmp 37] rfl rfl rfl rfl rfl Try.underlying49 Try.sizeOf4 rfl Try.zeroValue4 rfl ?_
          intro b8
          refine d_held (fun _ h => h.at 2 rfl) ?_
          refine pull3 ?_
          refine a_all1 10 (by kernel_rfl) rfl rfl ?_
          refine e_append rfl rfl rfl Try.underlying49 Try.underlying49 info4 rfl rfl rfl rfl rfl (fun _ h => lit_rd (h.at 2 rfl) encB [false] rfl rfl) (by simp only [byt4, List.length_append, List.length_cons, List.length_nil]; omega) (by simp only [List.length_append, List.length_cons, List.length_nil]; omega) ?_
          intro vk
          refine row_eq (hcs) ?_
          refine pull2 ?_
          refine drop0 ?_
          refine d_held (fun _ h => h.at 2 rfl) ?_
          refine pull3 ?_
          refine a_all1 15 (by kernel_rfl) rfl rfl ?_
          refine e_append rfl rfl rfl Try.underlying49 Try.underlying49 info4 rfl rfl rfl rfl rfl (fun _ h => lit_rd (h.at 2 rfl) encB [f.ref] rfl rfl) (by simp only [byt4, List.length_append, List.length_cons, List.length_nil]; omega) (by simp only [List.length_append, List.length_cons, List.length_nil]; omega) ?_
          intro vr
          refine row_eq (hrs) ?_
          refine pull2 ?_
          refine drop0 ?_
          refine d_held (fun _ h => h.at 2 rfl) ?_
          refine a_q (blind_block (blind_then (blind_then (blind_block (blind_then blind_body))))) 16 rfl (by kernel_rfl) (by kernel_rfl) (by kernel_rfl) (fun _ h => h.at 2 rfl) rfl (q_assign rfl rfl) rfl rfl ?_
          refine a_q (blind_block (blind_then (blind_then (blind_block (blind_then blind_body))))) 17 rfl (by kernel_rfl) (by kernel_rfl) (by kernel_rfl) (fun _ h => h.at 2 rfl) rfl (q_assign rfl rfl) rfl rfl ?_
          refine a_nil (by kernel_rfl) ?_
          refine k_block ?_
          refine k_then ?_
          refine c_region _ rfl ?_
          refine l_q rfl (q_inc rfl rfl rfl (by omega)) rfl rfl ?_
          refine l_q rfl (q_move rfl rfl) rfl rfl ?_
          refine l_nil ?_
          refine pull2 ?_
          refine drop0 ?_
          refine pull7 ?_
          refine pull7 ?_
          refine pull7 ?_
          refine pull7 ?_
          refine pull7 ?_
          refine pull7 ?_
          refine pull6 ?_
          refine pull7 ?_
          exact k_round ((i + 1, vk, vr)) (by dsimp only; omega) (by dsimp only; omega) (Sub.cons rfl (Sub.cons rfl (Sub.cons rfl (Sub.cons rfl (Sub.cons rfl (Sub.cons rfl (Sub.cons rfl (Sub.nil)))))))) (fun _ h => h)
      · refine e_buildSliceV (sz := 1) [.tmp 37] rfl rfl rfl rfl rfl Try.underlying49 Try.sizeOf4 rfl Try.zeroValue4 rfl ?_
        intro b9
        refine d_held (fun _ h => h.at 1 rfl) ?_
        refine a_all1 9 (by kernel_rfl) rfl rfl ?_
        refine e_buildSliceV (sz := 1) [.tmp 32] rfl rfl rfl rfl rfl Try.underlying49 Try.sizeOf4 rfl Try.zeroValue4 rfl ?_
        intro b10
        refine d_held (fun _ h => h.at 2 rfl) ?_
        refine pull3 ?_
        refine a_all1 10 (by kernel_rfl) rfl rfl ?_
        refine e_append rfl rfl rfl Try.underlying49 Try.underlying49 info4 rfl rfl rfl rfl rfl (fun _ h => lit_rd (h.at 1 rfl) encB [false] rfl rfl) (by simp only [byt4, List.length_append, List.length_cons, List.length_nil]; omega) (by simp only [List.length_append, List.length_cons, List.length_nil]; omega) ?_
        intro vk
        refine row_eq (hcs) ?_
        refine pull1 ?_
        refine drop0 ?_
        refine d_held (fun _ h => h.at 2 rfl) ?_
        refine pull3 ?_
        refine a_all1 15 (by kernel_rfl) rfl rfl ?_
        refine e_append rfl rfl rfl Try.underlying49 Try.underlying49 info4 rfl rfl rfl rfl rfl (fun _ h => lit_rd (h.at 2 rfl) encB [f.ref] rfl rfl) (by simp only [byt4, List.length_append, List.length_cons, List.length_nil]; omega) (by simp only [List.length_append, List.length_cons, List.length_nil]; omega) ?_
        intro vr
        refine row_eq (hrs) ?_
        refine pull2 ?_
        refine drop0 ?_
        refine d_held (fun _ h => h.at 2 rfl) ?_
        refine a_q (blind_block (blind_then (blind_then (blind_block (blind_then blind_body))))) 16 rfl (by kernel_rfl) (by kernel_rfl) (by kernel_rfl) (fun _ h => h.at 2 rfl) rfl (q_assign rfl rfl) rfl rfl ?_
        refine a_q (blind_block (blind_then (blind_then (blind_block (blind_then blind_body))))) 17 rfl (by kernel_rfl) (by kernel_rfl) (by kernel_rfl) (fun _ h => h.at 2 rfl) rfl (q_assign rfl rfl) rfl rfl ?_
        refine a_nil (by kernel_rfl) ?_
        refine k_block ?_
        refine k_then ?_
        refine c_region _ rfl ?_
        refine l_q rfl (q_inc rfl rfl rfl (by omega)) rfl rfl ?_
        refine l_q rfl (q_move rfl rfl) rfl rfl ?_
        refine l_nil ?_
        refine pull2 ?_
        refine drop0 ?_
        refine pull7 ?_
        refine pull7 ?_
        refine pull7 ?_
        refine pull7 ?_
        refine pull7 ?_
        refine pull7 ?_
        refine pull6 ?_
        refine pull7 ?_
        exact k_round ((i + 1, vk, vr)) (by dsimp only; omega) (by dsimp only; omega) (Sub.cons rfl (Sub.cons rfl (Sub.cons rfl (Sub.cons rfl (Sub.cons rfl (Sub.cons rfl (Sub.cons rfl (Sub.nil)))))))) (fun _ h => h)
  · try simp only [decide_eq_true_eq, decide_eq_false_iff_not, Bool.not_eq_true', Bool.not_eq_false'] at h1
    have hce : ((S.fl.take i).map canF) = M.can := by rw [List.take_of_length_le (by omega), can_eq hR]
    have hre : ((S.fl.take i).map FC.ref) = M.rfs := by rw [List.take_of_length_le (by omega), rfs_eq hR]
    rw [hce, hre]
    have hcn : M.can.length = M.fr.length := List.length_map ..
    have hrn : M.rfs.length = M.fr.length := List.length_map ..
    refine c_false rfl ?_
    refine c_exit ?_
    refine k_then_exit ?_
    refine k_then_exit ?_
    refine k_block_exit ?_
    refine k_then ?_
    refine c_seq ?_
    refine c_region _ rfl ?_
    refine l_q rfl (q_move rfl rfl) rfl rfl ?_
    refine l_q rfl (q_move rfl rfl) rfl rfl ?_
    refine l_q rfl (q_move rfl rfl) rfl rfl ?_
    refine l_q rfl (q_nilCheck rfl rfl) rfl rfl ?_
    refine l_q rfl (q_fieldAddr rfl Try.underlying78 rfl Try.sizeOf3 rfl rfl) rfl rfl ?_
    refine l_q rfl (q_loadC rfl Try.isAgg3 rfl (fun _ h => h.at 3 rfl) rfl) rfl rfl ?_
    have hne : M.can ≠ [] := fun e => by rw [e] at hcn; simp at hcn; omega
    obtain ⟨left, hlf⟩ : ∃ l, l = (swM M.can M.rfs M.hand).2 := ⟨_, rfl⟩
    have hll : left.length = M.fr.length := by rw [hlf, left_len (by omega) hne, hcn]
    refine Pre.setV (t := 47) (c := .int .i64 M.hand) rfl (by rw [hR.hd]) ?_
    refine l_e rfl ?_
    refine e_call_01 (sweep_spec M.can M.rfs M.hand hO.hw (by omega)) rfl rfl rfl Try.call48 rfl (fun _ h => ⟨h.rd 0 rfl, h.rd 1 rfl⟩) ?_
    intro vl _
    rw [← hlf]
    refine l_q rfl (q_move rfl rfl) rfl rfl ?_
    refine l_q rfl (q_extract rfl rfl rfl) rfl rfl ?_
    refine l_q rfl (q_extract rfl rfl rfl) rfl rfl ?_
    refine l_q rfl (q_extract rfl rfl rfl) rfl rfl ?_
    refine l_q rfl (q_assign rfl rfl) rfl rfl ?_
    refine l_q rfl (q_assign rfl rfl) rfl rfl ?_
    refine l_q rfl (q_assign rfl rfl) rfl rfl ?_
    refine l_nil ?_
    refine k_then ?_
    refine c_seq ?_
    refine c_seq ?_
    refine opt_cases ((swM M.can M.rfs M.hand).1) (fun hs => ?_) (fun k hs => ?_)
    · have hu := evict_none hs
      refine Pre.setV (t := 10) (c := .int .i64 (-1)) rfl (by unfold swP; rw [hs]) ?_
      refine c_region _ rfl ?_
      refine l_q rfl (q_move rfl rfl) rfl rfl ?_
      refine l_q rfl (q_lss rfl rfl rfl) rfl rfl ?_
      refine l_nil ?_
      refine k_then ?_
      refine Pre.setB (t := 53) (c := true) rfl (rfl) ?_
      refine c_true rfl ?_
      refine c_seq ?_
      refine c_region _ rfl ?_
      refine l_q rfl (q_build (nv0.c) rfl rfl (fun w => by kernel_rfl)) rfl rfl ?_
      refine l_q rfl (q_assign rfl rfl) rfl rfl ?_
      refine pull3 ?_
      refine l_e rfl ?_
      refine e_storeAgg rfl rfl Try.sizeOf37 rfl rfl rfl (NV.one _) (by show 0 + 5 ≤ 5; decide) ?_
      refine cells_eq (show Sep.splice _ 0 (nv0).c = (nv0).c from Sep.splice_all rfl) ?_
      refine l_q rfl (q_assign rfl rfl) rfl rfl ?_
      refine l_q rfl (q_assign rfl rfl) rfl rfl ?_
      refine l_nil ?_
      refine k_then ?_
      refine c_ret ?_
      refine k_then_ret ?_
      refine pull1 ?_
      refine drop0 ?_
      refine pull1 ?_
      refine drop0 ?_
      refine pull1 ?_
      refine drop0 ?_
      refine pull5 ?_
      refine pull5 ?_
      refine pull5 ?_
      refine pull5 ?_
      refine pull5 ?_
      refine pull5 ?_
      refine r_res4 rfl (show Sep.look _ _ = some _ from rfl) (res_cellA rfl Try.isAgg37 Try.sizeOf37 (fun _ h => h.at 0 rfl) (rfl)) (show Sep.look _ _ = some _ from rfl) (show Sep.look _ _ = some _ from rfl) ?_
      exact fun _ h => ⟨(S, nv0), by rw [hu]; rfl, ⟨by rw [hu]; exact hR, fun G hG => ⟨hG, .inl ⟨rfl, rfl⟩⟩, fun f hf => by rw [hu] at hf; cases hf⟩, h.drop⟩
    · obtain ⟨hck, hkl, _⟩ := sw_can hs
      have hkf : k < S.fl.length := by omega
      obtain ⟨f, hfk⟩ : ∃ f, S.fl[k]? = some f := ⟨_, List.getElem?_eq_getElem hkf⟩
      have hyk := hR.vw_at hfk
      have hu := evict_some hs hyk
      have hcf : canF f = true := by
        rw [can_eq hR, List.getD_eq_getElem?_getD, List.getElem?_map, hfk] at hck; exact hck
      have hf2 : f.st = 2 ∧ f.pins = 0 := by unfold canF at hcf; simpa using hcf
      obtain ⟨hsp, hsn⟩ := sw_some hs
      refine Pre.setV (t := 10) (c := .int .i64 (k : Int)) rfl (by rw [hsp]) ?_
      refine c_region _ rfl ?_
      refine l_q rfl (q_move rfl rfl) rfl rfl ?_
      refine l_q rfl (q_lss rfl rfl rfl) rfl rfl ?_
      refine l_nil ?_
      refine k_then ?_
      refine Pre.setB (t := 53) (c := false) rfl (decide_eq_false (by omega)) ?_
      refine c_false rfl ?_
      refine c_skip ?_
      refine k_then ?_
      refine c_seq ?_
      refine c_seq ?_
      refine c_region _ rfl ?_
      refine l_q rfl (q_move rfl rfl) rfl rfl ?_
      refine l_q rfl (q_nilCheck rfl rfl) rfl rfl ?_
      refine l_q rfl (q_fieldAddr rfl Try.underlying78 rfl Try.sizeOf75 rfl rfl) rfl rfl ?_
      refine l_q rfl (q_loadC rfl Try.isAgg75 rfl (fun _ h => h.at 4 rfl) rfl) rfl rfl ?_
      refine l_q rfl (q_lenV rfl Try.underlying75 rfl (fun _ h => h.rd 5 rfl)) rfl rfl ?_
      refine l_q rfl (q_move rfl rfl) rfl rfl ?_
      refine l_nil ?_
      refine k_then ?_
      refine c_block ?_
      have hlf2 : left.length = S.fl.length := by omega
      have hgl := reF_len hlf2
      refine pull1 ?_
      refine drop0 ?_
      refine pull1 ?_
      refine drop0 ?_
      refine pull6 ?_
      refine pull6 ?_
      refine pull6 ?_
      refine pull6 ?_
      refine pull6 ?_
      refine pull6 ?_
      refine pull6 ?_
      refine c_loop1 (fun (i : Nat) => [(0, .pointer (some ⟨bc, 0, none⟩)), (3, .pointer (some ⟨bo, 0, none⟩)), (10, .int .i64 (k : Int)), (11, .int .i64 (swN M.can M.rfs M.hand)), (12, vl), (59, .int .i64 (S.fl.length : Int)), (60, .int .i64 (i : Int))]) (fun (i : Nat) => St w (dom (S.H bc)) (rowE vl 4 encB left :: cellsE bo 37 nv0.c :: cellsE bc 78 (S).cells :: rowE (S).vF 80 FC.enc ((reF S.fl left).take i ++ S.fl.drop i) :: mapT (S).bA kI kI (S).at' :: mapT (S).bL kI vS (S).ld :: rowE (S).vL 83 Wn.enc (S).ln :: (S).rows)) (fun (i : Nat) => i ≤ S.fl.length) (fun (i : Nat) => S.fl.length - i) (0) (Nat.zero_le _) (Sub.cons rfl (Sub.cons rfl (Sub.cons rfl (Sub.cons rfl (Sub.cons rfl (Sub.cons rfl (Sub.cons rfl (Sub.nil)))))))) (fun _ h => h) ?_
      intro i hi
      refine c_seq ?_
      have hmx : ((reF S.fl left).take i ++ S.fl.drop i).length = S.fl.length := by rw [List.length_append, List.length_take, List.length_drop]; omega
      refine c_region _ rfl ?_
      refine l_q rfl (q_lss rfl rfl rfl) rfl rfl ?_
      refine l_nil ?_
      refine k_then ?_
      refine c_seq ?_
      refine Pre.caseB 61 rfl (fun h3 => ?_) (fun h3 => ?_)
      · try simp only [decide_eq_true_eq, decide_eq_false_iff_not, Bool.not_eq_true', Bool.not_eq_false'] at h3
        refine c_true rfl ?_
        refine c_skip ?_
        refine k_then ?_
        refine c_seq ?_
        refine c_block ?_
        refine c_seq ?_
        refine c_region _ rfl ?_
        refine l_q rfl (q_move rfl rfl) rfl rfl ?_
        refine l_q rfl (q_assign rfl rfl) rfl rfl ?_
        refine l_nil ?_
        refine k_then ?_
        obtain ⟨g, hgi⟩ : ∃ g, S.fl[i]? = some g := ⟨_, List.getElem?_eq_getElem (by omega)⟩
        obtain ⟨lb, hlb⟩ : ∃ b, left[i]? = some b := ⟨_, List.getElem?_eq_getElem (by omega)⟩
        have hmg := mix_get (gl := reF S.fl left) hgi hgl
        have hms := mix_step (fl := S.fl) (reF_get hgi hlb) hgl
        refine c_draw [(0, some true), (1, some true), (2, some true), (3, some true), (4, some true), (5, some true), (6, some true), (7, some true), (8, some true), (9, none), (10, none), (11, none)] [9, 10, 11] [(_, some true), (_, some true), (_, some true), (_, some true), (_, some true), (_, some true), (_, some true), (_, some true), (_, some true), (_, none), (_, none), (_, none)] (fun w2 => (cellsE bc 78 S.cells).at w2 ∧ RdV w2 vl encB left ∧ RdV w2 S.vF FC.enc ((reF S.fl left).take i ++ S.fl.drop i)) (blind_block (blind_then (blind_then (blind_block (blind_then blind_body))))) rfl (by kernel_rfl) (by kernel_rfl) rfl rfl rfl (by kernel_rfl) St.drawn (fun _ h => ⟨h.at 2 rfl, h.rd 0 rfl, h.rd 3 rfl⟩) ?_
        refine d_q rfl (q_move rfl rfl) rfl rfl ?_
        refine d_q rfl (q_nilCheck rfl rfl) rfl rfl ?_
        refine d_q rfl (q_fieldAddr rfl Try.underlying78 rfl Try.sizeOf75 rfl rfl) rfl rfl ?_
        refine d_q rfl (q_loadC rfl Try.isAgg75 rfl (fun _ h => h.1) rfl) rfl rfl ?_
        refine d_q rfl (q_move rfl rfl) rfl rfl ?_
        refine d_q rfl (q_move rfl rfl) rfl rfl ?_
        refine d_q rfl (q_move rfl rfl) rfl rfl ?_
        refine d_q rfl (q_indexV i rfl Try.underlying49 Try.sizeOf4 rfl (fun _ h => h.2.1) rfl rfl (by omega)) rfl rfl ?_
        refine d_q rfl (q_loadV i 0 rfl Try.isAgg4 rfl rfl (fun _ h => h.2.1) hlb rfl) rfl rfl ?_
        refine d_t rfl ?_
        refine e_q rfl rfl (q_indexV i rfl Try.underlying75 Try.sizeOf80 rfl (fun _ h => h.rd 3 rfl) rfl rfl (by omega)) ?_
        refine d_t rfl ?_
        refine e_q rfl rfl (q_fieldAddr rfl Try.underlying80 rfl Try.sizeOf4 rfl rfl) ?_
        refine pull3 ?_
        refine d_t rfl ?_
        refine e_storeV i 4 (({ g with ref := lb } : FC)) rfl rfl Try.sizeOf4 rfl rfl rfl hmg (by decide) rfl ?_
        refine d_nil ?_
        refine k_block ?_
        refine k_then ?_
        refine c_region _ rfl ?_
        refine l_q rfl (q_inc rfl rfl rfl (by omega)) rfl rfl ?_
        refine l_q rfl (q_move rfl rfl) rfl rfl ?_
        refine l_nil ?_
        refine row_eq hms ?_
        refine pull6 ?_
        refine pull6 ?_
        refine pull6 ?_
        refine pull3 ?_
        refine pull6 ?_
        refine pull6 ?_
        refine pull6 ?_
        exact k_round (i + 1) (by omega) (by omega) (Sub.cons rfl (Sub.cons rfl (Sub.cons rfl (Sub.cons rfl (Sub.cons rfl (Sub.cons rfl (Sub.cons rfl (Sub.nil)))))))) (fun _ h => h)
      · try simp only [decide_eq_true_eq, decide_eq_false_iff_not, Bool.not_eq_true', Bool.not_eq_false'] at h3
        have hfin : ((reF S.fl left).take i ++ S.fl.drop i) = reF S.fl left := by rw [List.take_of_length_le (by omega), List.drop_eq_nil_of_le (by omega), List.append_nil]
        rw [hfin]
        obtain ⟨lb, hlb⟩ : ∃ b, left[k]? = some b := ⟨_, List.getElem?_eq_getElem (by omega)⟩
        have hgk := reF_get hfk hlb
        refine c_false rfl ?_
        refine c_exit ?_
        refine k_then_exit ?_
        refine k_then_exit ?_
        refine k_block_exit ?_
        refine k_then ?_
        refine c_seq ?_
        refine c_region _ rfl ?_
        refine l_q rfl (q_move rfl rfl) rfl rfl ?_
        refine l_q rfl (q_nilCheck rfl rfl) rfl rfl ?_
        refine l_q rfl (q_fieldAddr rfl Try.underlying78 rfl Try.sizeOf75 rfl rfl) rfl rfl ?_
        refine l_q rfl (q_loadC rfl Try.isAgg75 rfl (fun _ h => h.at 2 rfl) rfl) rfl rfl ?_
        refine l_q rfl (q_move rfl rfl) rfl rfl ?_
        refine l_q rfl (q_indexV k rfl Try.underlying75 Try.sizeOf80 rfl (fun _ h => h.rd 3 rfl) rfl rfl (by omega)) rfl rfl ?_
        refine l_q rfl (q_loadVAgg k rfl Try.isAgg80 Try.sizeOf80 rfl rfl (fun _ h => h.rd 3 rfl) hgk) rfl rfl ?_
        refine l_e rfl ?_
        refine e_alloc rfl rfl rfl Try.zeroValue80 ?_
        intro bg
        refine l_e rfl ?_
        refine e_storeAgg rfl rfl Try.sizeOf80 rfl rfl rfl (FC.one _) (by show 0 + 11 ≤ 11; decide) ?_
        refine cells_eq (show Sep.splice _ 0 (({ f with ref := lb } : FC)).c = (({ f with ref := lb } : FC)).c from Sep.splice_all rfl) ?_
        refine l_nil ?_
        refine k_then ?_
        refine c_seq ?_
        refine c_draw [(0, some true), (1, some true), (2, some true), (3, some true), (4, some true), (5, some true), (7, some true), (6, some false), (8, some true), (9, some false), (10, none), (11, none), (12, none)] [10, 11, 12] [(_, some true), (_, some true), (_, some true), (_, some true), (_, some true), (_, some true), (_, some true), (_, some false), (_, some true), (_, some false), (_, none), (_, none), (_, none)] (fun w2 => (cellsE bc 78 S.cells).at w2 ∧ ∃ l : List FC, l.length = S.fl.length ∧ RdV w2 S.vF FC.enc l) (blind_then blind_body) rfl (by kernel_rfl) (by kernel_rfl) rfl rfl rfl (by kernel_rfl) St.drawn (fun _ h => ⟨h.at 3 rfl, _, by first | exact hgl | (rw [List.length_set]; exact hgl), h.rd 4 rfl⟩) ?_
        refine d_q rfl (q_move rfl rfl) rfl rfl ?_
        refine d_q rfl (q_nilCheck rfl rfl) rfl rfl ?_
        refine d_q rfl (q_fieldAddr rfl Try.underlying78 rfl Try.sizeOf75 rfl rfl) rfl rfl ?_
        refine d_q rfl (q_loadC rfl Try.isAgg75 rfl (fun _ h => h.1) rfl) rfl rfl ?_
        refine d_q rfl (q_move rfl rfl) rfl rfl ?_
        refine d_q rfl (q_move rfl rfl) rfl rfl ?_
        refine d_q rfl (q_move rfl rfl) rfl rfl ?_
        refine d_e rfl ?_
        refine e_call_00 (empty_spec) rfl rfl rfl Try.call35 rfl (fun _ _ => trivial) ?_
        intro _ _
        refine d_held (fun _ h => ⟨h.at 3 rfl, _, by first | exact hgl | (rw [List.length_set]; exact hgl), h.rd 4 rfl⟩) ?_
        refine d_q rfl (q_indexL k S.fl.length rfl Try.underlying75 Try.sizeOf80 rfl (fun _ h => h.2) rfl rfl (by omega)) rfl rfl ?_
        refine pull4 ?_
        refine d_e rfl ?_
        refine e_storeVAgg k fE rfl rfl Try.sizeOf80 rfl rfl rfl rfl (by omega) ?_
        refine d_held (fun _ h => ⟨h.at 4 rfl, _, by first | exact hgl | (rw [List.length_set]; exact hgl), h.rd 0 rfl⟩) ?_
        refine d_t rfl ?_
        refine e_q rfl rfl (q_nilCheck rfl rfl) ?_
        refine d_t rfl ?_
        refine e_q rfl rfl (q_fieldAddr rfl Try.underlying78 rfl Try.sizeOf3 rfl rfl) ?_
        refine pull4 ?_
        refine d_t rfl ?_
        refine e_store rfl rfl Try.sizeOf3 rfl rfl rfl (Nat.le_of_ble_eq_true rfl) ?_
        refine cells_eq (show _ = ({ S with fl := (reF S.fl left).set k fE, hand := swN M.can M.rfs M.hand } : CS).cells from rfl) ?_
        refine d_nil ?_
        refine k_then ?_
        refine c_seq ?_
        refine pull7 ?_
        refine pull7 ?_
        refine pull7 ?_
        refine pull4 ?_
        refine pull4 ?_
        refine pull7 ?_
        refine pull7 ?_
        refine pull7 ?_
        refine c_draw [(0, some true), (1, some true), (2, some true), (3, some true), (4, some true), (5, some true), (6, none)] [6] [(_, some true), (_, some true), (_, some true), (_, some true), (_, some true), (_, some true), (_, none)] _ (blind_then blind_body) rfl (by kernel_rfl) (by kernel_rfl) rfl rfl rfl (by kernel_rfl) St.drawn (fun _ h => h) ?_
        refine d_q rfl (q_move rfl rfl) rfl rfl ?_
        refine d_q rfl (q_nilCheck rfl rfl) rfl rfl ?_
        refine d_q rfl (q_fieldAddr rfl Try.underlying78 rfl Try.sizeOf73 rfl rfl) rfl rfl ?_
        refine d_q rfl (q_loadC rfl Try.isAgg73 rfl (fun _ h => h.at 3 rfl) rfl) rfl rfl ?_
        refine d_q rfl (q_fieldAddr rfl Try.underlying80 rfl Try.sizeOf3 rfl rfl) rfl rfl ?_
        refine d_q rfl (q_loadC rfl Try.isAgg3 rfl (fun _ h => h.at 0 rfl) rfl) rfl rfl ?_
        refine pull5 ?_
        refine d_t rfl ?_
        refine e_deleteT f.blk rfl rfl Try.underlying73 keyI rfl rfl ?_
        refine d_nil ?_
        refine k_then ?_
        refine c_seq ?_
        refine c_draw [(0, some true), (1, some true), (2, some true), (3, some true), (4, some true), (5, some true), (6, some true), (7, some false), (8, none), (9, none)] [8, 9] [(_, some true), (_, some true), (_, some true), (_, some true), (_, some true), (_, some true), (_, some true), (_, some false), (_, none), (_, none)] (fun w2 => (cellsE bg 80 ({ f with ref := lb } : FC).c).at w2) (blind_then blind_body) rfl (by kernel_rfl) (by kernel_rfl) rfl rfl rfl (by kernel_rfl) St.drawn (fun _ h => h.at 1 rfl) ?_
        refine d_q rfl (q_fieldAddr rfl Try.underlying80 rfl Try.sizeOf3 rfl rfl) rfl rfl ?_
        refine d_q rfl (q_loadC rfl Try.isAgg3 rfl (fun _ h => h) rfl) rfl rfl ?_
        refine d_q rfl (q_fieldAddr rfl Try.underlying80 rfl Try.sizeOf37 rfl rfl) rfl rfl ?_
        refine d_q rfl (q_loadCAgg (f.nv.c) rfl Try.isAgg37 Try.sizeOf37 rfl (fun _ h => h) (rfl) (rfl)) rfl rfl ?_
        refine d_q rfl (q_fieldAddr rfl Try.underlying80 rfl Try.sizeOf4 rfl rfl) rfl rfl ?_
        refine d_q rfl (q_loadC rfl Try.isAgg4 rfl (fun _ h => h) rfl) rfl rfl ?_
        refine d_q rfl (q_assign rfl rfl) rfl rfl ?_
        refine pull3 ?_
        refine d_e rfl ?_
        refine e_storeAgg rfl rfl Try.sizeOf37 rfl rfl rfl (NV.one _) (by show 0 + 5 ≤ 5; decide) ?_
        refine cells_eq (show Sep.splice _ 0 (f.nv).c = (f.nv).c from Sep.splice_all rfl) ?_
        refine d_held (fun _ h => h.at 2 rfl) ?_
        refine d_t rfl ?_
        refine e_q rfl rfl (q_assign rfl rfl) ?_
        refine d_t rfl ?_
        refine e_q rfl rfl (q_assign rfl rfl) ?_
        refine d_nil ?_
        refine k_then ?_
        refine c_ret ?_
        refine pull2 ?_
        refine drop0 ?_
        refine pull2 ?_
        refine drop0 ?_
        refine pull5 ?_
        refine pull5 ?_
        refine pull3 ?_
        refine pull5 ?_
        refine pull5 ?_
        refine pull5 ?_
        refine r_res4 rfl (show Sep.look _ _ = some _ from rfl) (res_cellA rfl Try.isAgg37 Try.sizeOf37 (fun _ h => h.at 0 rfl) (rfl)) (show Sep.look _ _ = some _ from rfl) (show Sep.look _ _ = some _ from rfl) ?_
        refine fun _ h => ⟨(({ S with fl := (reF S.fl left).set k fE, at' := mdelT f.blk S.at', hand := swN M.can M.rfs M.hand } : CS), f.nv), by rw [hu]; rfl, ⟨by rw [hlf]; exact hR.evict hO hs hfk hf2.1 (by rw [← hlf]; exact hll), fun G hG => ⟨?_, hG f (List.mem_of_getElem? hfk)⟩, fun g hg => ?_⟩, h.drop⟩
        · refine NIn.set (fun g hg => ?_) (.inl ⟨rfl, rfl⟩)
          unfold reF at hg
          obtain ⟨p, hp, rfl⟩ := List.mem_map.1 hg
          exact hG p.1 (List.of_mem_zip hp).1
        · rw [hu] at hg; cases hg; exact ⟨rfl, rfl⟩
end Go.Proofs.Ytpfbagkjhchojaa
