/- histories: the code Calls -/
import Derived.Test.YthfdmeikpbkpaaaG
set_option linter.unusedVariables false
set_option linter.unusedSimpArgs false
namespace Go.Proofs.Ythfdmeikpbkpaaa
open Go.Sep Go.RowKit

theorem erase_map {α β : Type} (f : α → β) : ∀ (l : List α) (i : Nat), (l.eraseIdx i).map f = (l.map f).eraseIdx i
  | [], _ => rfl
  | _ :: _, 0 => rfl
  | _ :: l, i + 1 => by simp only [List.eraseIdx_cons_succ, List.map_cons]; rw [erase_map f l i]
section
variable {α β : Type} [DecidableEq α]
def mdel (a : α) : List (α × β) → List (α × β)
  | [] => []
  | (x, y) :: l => if a = x then l else (x, y) :: mdel a l
theorem mdel_none {a : α} : ∀ {l : List (α × β)} {i : Nat}, mfind a l i = none → mdel a l = l
  | [], i, h => rfl
  | (x, y) :: l, i, h => by
    simp only [mfind] at h
    split at h
    · cases h
    · rename_i hne; simp only [mdel, if_neg hne]; rw [mdel_none h]
theorem mdel_some {a : α} {y : β} : ∀ {l : List (α × β)} {i j : Nat}, mfind a l i = some (j, y) → i ≤ j ∧ mdel a l = l.eraseIdx (j - i)
  | [], i, j, h => by cases h
  | (x, z) :: l, i, j, h => by
    simp only [mfind] at h
    split at h
    · rename_i he; cases h; simp [mdel, he]
    · rename_i hne
      obtain ⟨h1, h2⟩ := mdel_some h
      have e : j - i = (j - (i + 1)) + 1 := by omega
      simp only [mdel, if_neg hne]
      rw [e, List.eraseIdx_cons_succ, h2]
      exact ⟨by omega, rfl⟩
theorem mget_del {a b : α} (h : a ≠ b) : ∀ l : List (α × β), mget b (mdel a l) = mget b l
  | [] => rfl
  | (x, y) :: l => by
    simp only [mdel]
    by_cases e : a = x
    · subst e; rw [if_pos rfl]; simp only [mget, if_neg h.symm]
    · rw [if_neg e]; simp only [mget, mget_del h l]
theorem mget_put_ne {a b : α} {v : β} (h : a ≠ b) : ∀ l : List (α × β), mget b (mput a v l) = mget b l
  | [] => by simp [mput, mget, h.symm]
  | (x, y) :: l => by
    simp only [mput]
    by_cases e : a = x
    · subst e; rw [if_pos rfl]; simp only [mget, if_neg h.symm]
    · rw [if_neg e]; simp only [mget, mget_put_ne h l]
end
section
variable {P : Program} {n : Nat} {L : Env} {X : World → Prop} {o : Oper} {Q : Exit → Act → World → Prop} {K : Act → World → Prop}
variable {w0 : World} {D : List Nat} {H : List Ent} {α β : Type} [DecidableEq α] {kf : α → Value} {vf : β → Value}
theorem run_delete {t kt vt t2 ty : TypeId} {b : Nat} {l : List (α × β)} {w : World} (a : α) (ht : P.underlying t = some (.map kt vt)) (hK : KeyOk P kt kf) (h : St w0 D (mapE b kf vf l :: H) w) :
    ∃ w', (Builtin.delete_ #[t, t2] ty #[.map (some b), kf a]).run P w = .ok (.tuple #[]) w' ∧ St w0 D (mapE b kf vf (mdel a l) :: H) w' := by
  obtain ⟨m, c, hm, hl⟩ := map_obj (h.at 0 rfl)
  have hlt : b < w.heap.size := (Array.getElem?_eq_some_iff.1 hm).1
  have hg : (getObj b).run P w = .ok (.map m c) w := by simp [getObj, Sem.run, hm]
  have hs : ∀ m' c', (setObj b (.map m' c')).run P w = .ok () { w with heap := w.heap.setIfInBounds b (.map m' c') } := fun m' c' => by simp [setObj, Sem.run, hm]
  have hst : ∀ (m' : Array MapEntry) (c' : Nat) (l' : List (α × β)), m'.toList.map (fun e => (e.key, e.val)) = l'.map (fun p => (kf p.1, vf p.2)) → St w0 D (mapE b kf vf l' :: H) { w with heap := w.heap.setIfInBounds b (.map m' c') } := fun m' c' l' hl' =>
    h.write rfl rfl rfl (by simp) (fun k hk => by simp [Array.getElem?_setIfInBounds, Ne.symm hk]) ⟨m', c', by simp [Array.getElem?_setIfInBounds, hlt], hl'⟩
  have hf := hK.find w a m.toList β vf l hl
  unfold Builtin.delete_
  cases hfi : mfind a l 0 with
  | none =>
    rw [hfi] at hf
    simp only [Option.map_none] at hf
    refine ⟨_, by simp [run_und ht, hg, hK.ck, hf, hs], hst m c (mdel a l) ?_⟩
    rw [mdel_none hfi]; exact hl
  | some p =>
    obtain ⟨i, y⟩ := p
    rw [hfi] at hf
    simp only [Option.map_some] at hf
    obtain ⟨_, h2⟩ := mdel_some hfi
    rw [Nat.sub_zero] at h2
    have hml : m.size = l.length := by have := congrArg List.length hl; simpa using this
    have hi : i < m.size := by
      obtain ⟨_, h5, _⟩ := mfind_some (v := y) hfi
      have := (List.getElem?_eq_some_iff.1 h5).1
      omega
    refine ⟨_, by simp [run_und ht, hg, hK.ck, hf, hs], hst (m.eraseIdxIfInBounds i) c (mdel a l) ?_⟩
    rw [h2]
    have he : (m.eraseIdxIfInBounds i).toList = m.toList.eraseIdx i := by
      unfold Array.eraseIdxIfInBounds
      rw [dif_pos hi]; simp
    rw [he, erase_map, hl, erase_map]
theorem e_delete {t kt vt t2 : TypeId} {x k : Operand} {b : Nat} {l : List (α × β)} (a : α) (ho : o.op = .call ⟨.builtin .delete, #[x, k], #[t, t2]⟩) (hd : o.dst = none) (ht : P.underlying t = some (.map kt vt)) (hK : KeyOk P kt kf)
    (hx : ev L x = some (.map (some b))) (hk : ev L k = some (kf a)) (h : Pre n L (St w0 D (mapE b kf vf (mdel a l) :: H)) K) : EOp P n L (St w0 D (mapE b kf vf l :: H)) o Q K :=
  EOp.val0 (β := Unit) (fun _ => .tuple #[]) (fun _ => True) (fun _ => St w0 D (mapE b kf vf (mdel a l) :: H)) hd (fun ac w kn hX => by
    obtain ⟨w', hr, h'⟩ := run_delete (P := P) (t2 := t2) (ty := o.type) a ht hK hX
    exact ⟨(), w', by simp [execOp, ho, resolve, invoke, builtin, kn.eval hx, kn.eval hk, hr], trivial, h'⟩) (fun _ _ => h)
end
/-- A call's name: its client and index. -/
structure Ck where
  c : Int
  k : Int
  wc : (Lit.int .i64 c).wf = true
  wk : (Lit.int .i64 k).wf = true
theorem Ck.ext' {a b : Ck} (h1 : a.c = b.c) (h2 : a.k = b.k) : a = b := by cases a; cases b; simp only at h1 h2; subst h1; subst h2; rfl
instance : DecidableEq Ck := fun a b => if h : a.c = b.c ∧ a.k = b.k then isTrue (Ck.ext' h.1 h.2) else isFalse (fun e => h (by subst e; exact ⟨rfl, rfl⟩))
def encK : Enc Ck := ⟨2, fun a => [.int .i64 a.c, .int .i64 a.k], fun _ => rfl, fun a u h => by simp at h; rcases h with rfl | rfl <;> rfl, by decide⟩
abbrev kfC (a : Ck) : Value := .agg (encK.f a).toArray
theorem keyC : KeyOk Try.prog 57 kfC :=
  keyOk_agg (E := encK) (d := 2) (ks := [.i .i64, .i .i64]) (by kernel_rfl) (by kernel_rfl) (by decide) (by kernel_rfl) (by kernel_rfl) (fun a => ⟨rfl, fun j k' v h1 h2 => by
      match j with
      | 0 => cases h1; cases h2; exact ⟨_, rfl, a.wc⟩
      | 1 => cases h1; cases h2; exact ⟨_, rfl, a.wk⟩
      | j + 2 => simp at h1⟩)
    (fun a x h => by
      have h' : [Value.int .i64 a.c, .int .i64 a.k] = [Value.int .i64 x.c, .int .i64 x.k] := h
      simp only [List.cons.injEq, Value.int.injEq, true_and, and_true] at h'
      exact Ck.ext' h'.1 h'.2)
    (fun a => sameBits_ints _ (fun v hv => by
      rcases List.mem_cons.1 (show v ∈ [Value.int .i64 a.c, .int .i64 a.k] from hv) with rfl | hv
      · exact ⟨_, _, rfl⟩
      · rw [List.mem_singleton] at hv; subst hv; exact ⟨_, _, rfl⟩))
def Ev.ck (e : Ev) : Ck := ⟨e.client, e.index, e.wc, e.wi⟩
/-- Which calls are under way, and where they stand. -/
def undOf (ops : List (List Op)) (evs : List Ev) : Nat → List (Ck × Int)
  | 0 => []
  | i + 1 => match evs[i]? with | some e => (if e.done = true then mdel e.ck (undOf ops evs i) else mput e.ck ((callsOf ops evs i).length : Int) (undOf ops evs i)) | none => undOf ops evs i
theorem und_succ {ops : List (List Op)} {evs : List Ev} {i : Nat} {x : Ev} (h : evs[i]? = some x) : undOf ops evs (i + 1) = if x.done = true then mdel x.ck (undOf ops evs i) else mput x.ck ((callsOf ops evs i).length : Int) (undOf ops evs i) := by simp only [undOf, h]

theorem ans_client (i : Nat) (x : Ev) (y : Ca) : (ansC i x y).client = y.client := by unfold ansC; split; split; rfl; rfl; rfl
theorem ans_index (i : Nat) (x : Ev) (y : Ca) : (ansC i x y).index = y.index := by unfold ansC; split; split; rfl; rfl; rfl
theorem new_client (ops : List (List Op)) (i : Nat) (x : Ev) : (newC ops i x).client = x.client := by unfold newC; split <;> rfl
theorem new_index (ops : List (List Op)) (i : Nat) (x : Ev) : (newC ops i x).index = x.index := by unfold newC; split <;> rfl
structure J (ops : List (List Op)) (evs : List Ev) (i : Nat) (st : List (Nat × Bool)) : Prop where
  ix : ∀ (pos : Nat) (y : Ca), (callsOf ops evs i)[pos]? = some y → ∃ (c m : Nat) (p : Nat × Bool), y.client = (c : Int) ∧ y.index = (m : Int) ∧ st[c]? = some p ∧ (m < p.1 ∨ (m = p.1 ∧ p.2 = true))
  un : ∀ (a b : Nat) (ya yb : Ca), (callsOf ops evs i)[a]? = some ya → (callsOf ops evs i)[b]? = some yb → ya.client = yb.client → ya.index = yb.index → a = b
  ud : ∀ (c k : Nat) (q : Ck), st[c]? = some (k, true) → q.c = (c : Int) → q.k = (k : Int) → ∃ (pos : Nat) (y : Ca), mget q (undOf ops evs i) = some (pos : Int) ∧ (callsOf ops evs i)[pos]? = some y ∧ y.client = (c : Int) ∧ y.index = (k : Int)
theorem stp_some {ops : List (List Op)} {st st' : List (Nat × Bool)} {x : Ev} (hl : st.length = ops.length) (h : stp ops st x = some st') : ∃ (c k : Nat), x.client = (c : Int) ∧ x.index = (k : Int) ∧ st[c]? = some (k, x.done) ∧ st' = st.set c (nxt (k, x.done) x) := by
  unfold stp at h
  split at h
  · rename_i hc
    split at h
    · rename_i hok
      have hlt : x.client.toNat < st.length := by omega
      have hg : st[x.client.toNat]? = some (st.getD x.client.toNat (0, false)) := by rw [List.getD_eq_getElem?_getD, List.getElem?_eq_getElem hlt]; rfl
      unfold okB at hok
      simp only [Bool.and_eq_true, decide_eq_true_eq, beq_iff_eq] at hok
      obtain ⟨⟨h1, h2⟩, _⟩ := hok
      have hp : st.getD x.client.toNat (0, false) = ((st.getD x.client.toNat (0, false)).1, x.done) := by rw [h2]
      refine ⟨x.client.toNat, (st.getD x.client.toNat (0, false)).1, by omega, h1, by rw [hg, ← hp], ?_⟩
      rw [← hp]; exact (Option.some.inj h).symm
    · cases h
  · cases h
theorem set_get {α : Type} {l : List α} {c d : Nat} {x y : α} (h : l[c]? = some y) : (l.set c x)[d]? = if d = c then some x else l[d]? := by
  have hlt := (List.getElem?_eq_some_iff.1 h).1
  rw [List.getElem?_set]
  by_cases e : d = c
  · subst e; rw [if_pos rfl, if_pos rfl, if_pos hlt]
  · rw [if_neg e, if_neg (fun e' => e e'.symm)]
theorem J_step {ops : List (List Op)} {evs : List Ev} {i : Nat} {st st' : List (Nat × Bool)} {x : Ev} (hj : J ops evs i st) (hx : evs[i]? = some x) (hl : st.length = ops.length) (h : stp ops st x = some st') : J ops evs (i + 1) st' := by
  obtain ⟨c, k, hc, hk, hp, rfl⟩ := stp_some hl h
  have hcs := calls_succ (ops := ops) hx
  have hus := und_succ (ops := ops) hx
  cases hd : x.done with
  | false =>
    rw [hd] at hp
    have hn : nxt (k, false) x = (k, true) := by unfold nxt; rw [if_neg (by rw [hd]; decide)]
    rw [hn]
    unfold callS at hcs
    rw [if_neg (by rw [hd]; decide)] at hcs hus
    have hget : ∀ d : Nat, (st.set c (k, true))[d]? = if d = c then some (k, true) else st[d]? := fun d => set_get hp
    have hap : ∀ (pos : Nat) (y : Ca), (callsOf ops evs (i + 1))[pos]? = some y → (callsOf ops evs i)[pos]? = some y ∨ (pos = (callsOf ops evs i).length ∧ y = newC ops i x) := fun pos y hy => by
      rw [hcs] at hy
      by_cases hlt : pos < (callsOf ops evs i).length
      · rw [List.getElem?_append_left hlt] at hy; exact .inl hy
      · rw [List.getElem?_append_right (by omega)] at hy
        have h0 : pos - (callsOf ops evs i).length = 0 := by
          have := (List.getElem?_eq_some_iff.1 hy).1; simp at this; omega
        rw [h0] at hy
        exact .inr ⟨by omega, (Option.some.inj hy).symm⟩
    have hfar : ∀ (pos : Nat) (y : Ca), (callsOf ops evs i)[pos]? = some y → y.client = x.client → y.index = x.index → False := fun pos y hy e1 e2 => by
      obtain ⟨c0, m, p, h1, h2, h3, h4⟩ := hj.ix pos y hy
      have : c0 = c := by omega
      subst this
      rw [hp] at h3
      cases h3
      rcases h4 with h4 | h4
      · simp only at h4; omega
      · cases h4.2
    refine ⟨fun pos y hy => ?_, fun a b ya yb ha hb e1 e2 => ?_, fun c0 k0 q h1 h2 h3 => ?_⟩
    · rcases hap pos y hy with hy | ⟨_, rfl⟩
      · obtain ⟨c0, m, p, h1, h2, h3, h4⟩ := hj.ix pos y hy
        by_cases e : c0 = c
        · subst e
          rw [hp] at h3; cases h3
          refine ⟨c0, m, (k, true), h1, h2, by rw [hget, if_pos rfl], ?_⟩
          rcases h4 with h4 | h4
          · exact .inl h4
          · cases h4.2
        · exact ⟨c0, m, p, h1, h2, by rw [hget, if_neg e]; exact h3, h4⟩
      · exact ⟨c, k, (k, true), by rw [new_client]; exact hc, by rw [new_index]; exact hk, by rw [hget, if_pos rfl], .inr ⟨rfl, rfl⟩⟩
    · rcases hap a ya ha with ha | ⟨ea, rfl⟩ <;> rcases hap b yb hb with hb | ⟨eb, rfl⟩
      · exact hj.un a b ya yb ha hb e1 e2
      · rw [new_client] at e1; rw [new_index] at e2; exact (hfar a ya ha e1 e2).elim
      · rw [new_client] at e1; rw [new_index] at e2; exact (hfar b yb hb e1.symm e2.symm).elim
      · omega
    · rw [hget] at h1
      split at h1
      · rename_i e
        subst e
        have h4 := Option.some.inj h1
        have hkk : k = k0 := congrArg Prod.fst h4
        subst hkk
        have hq : q = x.ck := Ck.ext' (by rw [h2]; exact hc.symm) (by rw [h3]; exact hk.symm)
        subst hq
        refine ⟨(callsOf ops evs i).length, newC ops i x, by rw [hus]; exact mget_put _ _ _, ?_, by rw [new_client]; exact hc, by rw [new_index]; exact hk⟩
        rw [hcs, List.getElem?_append_right (Nat.le_refl _)]; simp
      · rename_i e
        obtain ⟨pos, y, g1, g2, g3, g4⟩ := hj.ud c0 k0 q h1 h2 h3
        refine ⟨pos, y, ?_, ?_, g3, g4⟩
        · rw [hus, mget_put_ne (fun e' => e (by have := congrArg Ck.c e'; have h9 : x.client = q.c := this; omega))]; exact g1
        · rw [hcs, List.getElem?_append_left (List.getElem?_eq_some_iff.1 g2).1]; exact g2
  | true =>
    rw [hd] at hp
    have hn : nxt (k, true) x = (k + 1, false) := by unfold nxt; rw [if_pos hd]
    rw [hn]
    unfold callS at hcs
    rw [if_pos hd] at hcs hus
    have hget : ∀ d : Nat, (st.set c (k + 1, false))[d]? = if d = c then some (k + 1, false) else st[d]? := fun d => set_get hp
    have hap : ∀ (pos : Nat) (y : Ca), (callsOf ops evs (i + 1))[pos]? = some y → ∃ z, (callsOf ops evs i)[pos]? = some z ∧ y = ansC i x z := fun pos y hy => by
      rw [hcs, List.getElem?_map, Option.map_eq_some_iff] at hy
      obtain ⟨z, h1, h2⟩ := hy
      exact ⟨z, h1, h2.symm⟩
    refine ⟨fun pos y hy => ?_, fun a b ya yb ha hb e1 e2 => ?_, fun c0 k0 q h1 h2 h3 => ?_⟩
    · obtain ⟨z, hz, rfl⟩ := hap pos y hy
      obtain ⟨c0, m, p, h1, h2, h3, h4⟩ := hj.ix pos z hz
      rw [ans_client, ans_index]
      by_cases e : c0 = c
      · subst e
        rw [hp] at h3; cases h3
        refine ⟨c0, m, (k + 1, false), h1, h2, by rw [hget, if_pos rfl], .inl ?_⟩
        simp only at h4 ⊢
        omega
      · exact ⟨c0, m, p, h1, h2, by rw [hget, if_neg e]; exact h3, h4⟩
    · obtain ⟨za, hza, rfl⟩ := hap a ya ha
      obtain ⟨zb, hzb, rfl⟩ := hap b yb hb
      rw [ans_client, ans_client] at e1
      rw [ans_index, ans_index] at e2
      exact hj.un a b za zb hza hzb e1 e2
    · rw [hget] at h1
      split at h1
      · have h4 := Option.some.inj h1
        cases congrArg Prod.snd h4
      · rename_i e
        obtain ⟨pos, y, g1, g2, g3, g4⟩ := hj.ud c0 k0 q h1 h2 h3
        refine ⟨pos, ansC i x y, ?_, ?_, by rw [ans_client]; exact g3, by rw [ans_index]; exact g4⟩
        · rw [hus, mget_del (fun e' => e (by have := congrArg Ck.c e'; have h9 : x.client = q.c := this; omega))]; exact g1
        · rw [hcs, List.getElem?_map, g2]; rfl
theorem calls_inv {ops : List (List Op)} {evs : List Ev} : ∀ (i : Nat) (st : List (Nat × Bool)), i ≤ evs.length → chk ops (evs.take i) = some st → st.length = ops.length ∧ J ops evs i st
  | 0, st, _, h => by
    have h' := Option.some.inj ((chk_zero ops evs).symm.trans h)
    subst h'
    refine ⟨List.length_replicate .., fun pos y hy => (by cases hy), fun a b ya yb ha _ _ _ => (by cases ha), fun c k q h1 _ _ => ?_⟩
    have := List.mem_of_getElem? h1; rw [List.mem_replicate] at this; cases this.2
  | i + 1, st, hi, h => by
    obtain ⟨x, hx⟩ : ∃ x, evs[i]? = some x := ⟨_, List.getElem?_eq_getElem (by omega)⟩
    cases h0 : chk ops (evs.take i) with
    | none =>
      have : chk ops (evs.take (i + 1)) = none := by
        unfold chk at h0 ⊢; rw [List.take_add_one, hx, List.foldl_append, h0]; rfl
      rw [this] at h; cases h
    | some s0 =>
      obtain ⟨g1, g2⟩ := calls_inv i s0 (by omega) h0
      rw [chk_snoc hx h0] at h
      exact ⟨by rw [stp_len h]; exact g1, J_step g2 hx g1 h⟩
/-- What an answer does to the calls. -/
theorem ans_one {L : List Ca} {i pos : Nat} {x : Ev} {y : Ca} (hy : L[pos]? = some y) (hc : y.client = x.client) (hk : y.index = x.index) (un : ∀ (a b : Nat) (ya yb : Ca), L[a]? = some ya → L[b]? = some yb → ya.client = yb.client → ya.index = yb.index → a = b) : L.map (ansC i x) = L.set pos (ansC i x y) := by
  refine List.ext_getElem? (fun j => ?_)
  rw [set_get hy, List.getElem?_map]
  split
  · rename_i e; subst e; rw [hy]; rfl
  · rename_i e
    cases hz : L[j]? with
    | none => rfl
    | some z =>
      show some (ansC i x z) = some z
      congr 1
      unfold ansC
      rw [if_neg]
      rintro ⟨h1, h2⟩
      exact e (un j pos z y hz hy (h1.trans hc.symm) (h2.trans hk.symm))
abbrev vI : Int → Value := .int .i64
theorem e_q {P : Program} {n : Nat} {L : Env} {X : World → Prop} {o : Oper} {Q : Exit → Act → World → Prop} {K : Act → World → Prop} {v : Value} {d : Nat} (hd : o.dst = some d) (hn : d.blt n = true) (hq : QOp P n L X o v) (h : Pre n ((d, v) :: L) X K) : EOp P n L X o Q K :=
  EOp.val (β := Unit) (fun _ => v) (fun _ => True) (fun _ => X) hd hn (fun a w k x => ⟨(), w, hq a w k x, trivial, x⟩) (fun _ _ => h)
/-- The call that an answer ends. -/
theorem ans_at {ops : List (List Op)} {evs : List Ev} {i : Nat} {x : Ev} (h : (chk ops evs).isSome = true) (hx : evs[i]? = some x) (hd : x.done = true) : ∃ (pos : Nat) (y : Ca), mget x.ck (undOf ops evs i) = some (pos : Int) ∧ (callsOf ops evs i)[pos]? = some y ∧ (callsOf ops evs i).map (ansC i x) = (callsOf ops evs i).set pos (ansC i x y) ∧ y.client = x.client ∧ y.index = x.index := by
  have hlt := (List.getElem?_eq_some_iff.1 hx).1
  cases h1 : chk ops (evs.take i) with
  | none => rw [chk_none h1] at h; cases h
  | some st =>
    obtain ⟨hl, hj⟩ := calls_inv i st (by omega) h1
    have h2 := chk_snoc hx h1
    cases h3 : stp ops st x with
    | none => rw [h3] at h2; rw [chk_none h2] at h; cases h
    | some st' =>
      obtain ⟨c, k, hc, hk, hp, _⟩ := stp_some hl h3
      rw [hd] at hp
      obtain ⟨pos, y, g1, g2, g3, g4⟩ := hj.ud c k x.ck hp hc hk
      exact ⟨pos, y, g1, g2, ans_one g2 (by rw [g3, hc]) (by rw [g4, hk]) hj.un, by rw [g3, hc], by rw [g4, hk]⟩

set_option maxRecDepth 100000 in
set_option maxHeartbeats 1000000 in
theorem calls_spec {va vo : Value} (l : List Ev) (vs : List Sv) (ops : List (List Op)) (hn : l.length ≤ 65536) (hm : ops.length ≤ 65536) (hO : ∀ o ∈ ops, o.length ≤ 65536) : Con Try.prog 11 [va, vo] (fun w => RdV w va Ev.enc l ∧ RR w vo vs ops) [] (fun v : Value => v) (fun _ => True) (fun v => [rowE v 47 Ca.enc (if (chk ops l).isSome = true then callsOf ops l l.length else [])]) := by
  intro w hE hH
  obtain ⟨hl, hvo, hvl, hin⟩ := hE
  refine enter (n := 71) (vs := [va, vo]) (St w [] []) Try.func11 rfl rfl rfl (St.init hH) ?_
  refine c_seq ?_
  refine c_region _ rfl ?_
  refine l_q rfl (q_assign rfl rfl) rfl rfl ?_
  refine l_nil ?_
  refine k_then ?_
  refine c_seq ?_
  refine c_seq ?_
  refine c_region _ rfl ?_
  refine l_q rfl (q_move rfl rfl) rfl rfl ?_
  refine l_q rfl (q_move rfl rfl) rfl rfl ?_
  refine l_e rfl ?_
  refine e_call_00 (chk_spec l vs ops hn hm hO) rfl rfl rfl Try.call13 rfl (fun _ h => ⟨hl.keep h (by simp [dom]), ⟨hvo.keep h (by simp [dom]), hvl, fun i s o h1 h2 => (hin i s o h1 h2).keep h (by simp [dom])⟩⟩) ?_
  intro _ _
  refine l_q rfl (q_not rfl rfl) rfl rfl ?_
  refine l_nil ?_
  refine k_then ?_
  refine Pre.caseB 14 rfl (fun h0 => ?_) (fun h0 => ?_)
  · try simp only [Bool.not_eq_true', Bool.not_eq_false'] at h0
    refine c_true rfl ?_
    refine c_seq ?_
    refine c_region _ rfl ?_
    refine l_q rfl (q_assign rfl rfl) rfl rfl ?_
    refine l_nil ?_
    refine k_then ?_
    refine c_ret ?_
    refine k_then_ret ?_
    refine row0 47 Ca.enc none ?_
    refine r_one rfl rfl ?_
    exact fun _ h => ⟨_, rfl, trivial, by rw [h0]; exact h⟩
  · try simp only [Bool.not_eq_true', Bool.not_eq_false'] at h0
    refine c_false rfl ?_
    refine c_skip ?_
    refine k_then ?_
    refine c_seq ?_
    refine c_region _ rfl ?_
    refine l_q rfl (q_assign rfl rfl) rfl rfl ?_
    refine l_nil ?_
    refine k_then ?_
    refine c_seq ?_
    refine c_region _ rfl ?_
    refine l_e rfl ?_
    refine e_makeMap kfC vI rfl rfl rfl ?_
    intro bm
    refine l_q rfl (q_assign rfl rfl) rfl rfl ?_
    refine l_nil ?_
    refine k_then ?_
    refine c_seq ?_
    refine c_seq ?_
    refine c_region _ rfl ?_
    refine l_q rfl (q_move rfl rfl) rfl rfl ?_
    refine l_q rfl (q_lenV rfl Try.underlying26 rfl (fun _ h => hl.keep h (by simp [dom]))) rfl rfl ?_
    refine l_q rfl (q_move rfl rfl) rfl rfl ?_
    refine l_nil ?_
    refine k_then ?_
    refine c_block ?_
    refine row0 47 Ca.enc none ?_
    refine c_loop2 (fun (i : Nat) (v : Value) => [(1, vo), (5, v), (6, .map (some bm)), (16, va), (17, .int .i64 (l.length : Int)), (18, .int .i64 (i : Int))]) (fun (i : Nat) (v : Value) => St w [] [rowE v 47 Ca.enc (callsOf ops l i), mapE bm kfC vI (undOf ops l i)]) (fun (i : Nat) (v : Value) => i ≤ l.length) (fun (i : Nat) (v : Value) => l.length - i) (0) (.slice none 0 0) (Nat.zero_le _) (Sub.cons rfl (Sub.cons rfl (Sub.cons rfl (Sub.cons rfl (Sub.cons rfl (Sub.cons rfl (Sub.nil))))))) (fun _ h => h) ?_
    intro i v hi
    refine c_seq ?_
    have hcl := calls_len ops l i
    refine c_region _ rfl ?_
    refine l_q rfl (q_lss rfl rfl rfl) rfl rfl ?_
    refine l_nil ?_
    refine k_then ?_
    refine c_seq ?_
    refine Pre.caseB 19 rfl (fun h1 => ?_) (fun h1 => ?_)
    · try simp only [decide_eq_true_eq, decide_eq_false_iff_not, Bool.not_eq_true', Bool.not_eq_false'] at h1
      obtain ⟨x, hx⟩ : ∃ x, l[i]? = some x := ⟨_, List.getElem?_eq_getElem (by omega)⟩
      have hcs := calls_succ (ops := ops) hx
      have hus := und_succ (ops := ops) hx
      obtain ⟨c, k, lo, o, hc, hxk, hlo, ho, hop⟩ := chk_at h0 hx
      have hclt := (List.getElem?_eq_some_iff.1 hlo).1
      have hklt := (List.getElem?_eq_some_iff.1 ho).1
      obtain ⟨s, hs⟩ : ∃ s, vs[c]? = some s := ⟨_, List.getElem?_eq_getElem (by omega)⟩
      have hrd := hin c s lo hs hlo
      have hi6 : i ≤ 65536 := by omega
      refine c_true rfl ?_
      refine c_skip ?_
      refine k_then ?_
      refine c_seq ?_
      refine c_block ?_
      refine c_seq ?_
      refine c_region _ rfl ?_
      refine l_q rfl (q_move rfl rfl) rfl rfl ?_
      refine l_q rfl (q_indexV i rfl Try.underlying26 Try.sizeOf52 rfl (fun _ h => hl.keep h (by simp [dom])) rfl rfl (by omega)) rfl rfl ?_
      refine l_q rfl (q_loadVAgg i rfl Try.isAgg52 Try.sizeOf52 rfl rfl (fun _ h => hl.keep h (by simp [dom])) hx) rfl rfl ?_
      refine l_e rfl ?_
      refine e_alloc rfl rfl rfl Try.zeroValue52 ?_
      intro be
      refine l_q rfl (q_assign rfl rfl) rfl rfl ?_
      refine l_e rfl ?_
      refine e_storeAgg rfl rfl Try.sizeOf52 rfl rfl (Ev.c_len _) (Ev.one _) (by show 0 + (Ev.c x).length ≤ 22; rw [Ev.c_len]; decide) ?_
      refine cells_eq (show Sep.splice _ 0 x.c = x.c from Sep.splice_all (by rw [Ev.c_len]; rfl)) ?_
      refine l_nil ?_
      refine k_then ?_
      refine c_seq ?_
      refine c_region _ rfl ?_
      refine l_q rfl (q_fieldAddr rfl Try.underlying52 rfl Try.sizeOf3 rfl rfl) rfl rfl ?_
      refine l_q rfl (q_loadC rfl Try.isAgg3 rfl (fun _ h => h.at 0 rfl) rfl) rfl rfl ?_
      refine l_q rfl (q_fieldAddr rfl Try.underlying52 rfl Try.sizeOf3 rfl rfl) rfl rfl ?_
      refine l_q rfl (q_loadC rfl Try.isAgg3 rfl (fun _ h => h.at 0 rfl) rfl) rfl rfl ?_
      refine l_q rfl (q_build ([.int .i64 x.client, .int .i64 x.index]) rfl rfl (fun w => by kernel_rfl)) rfl rfl ?_
      refine l_e rfl ?_
      refine e_alloc rfl rfl rfl Try.zeroValue57 ?_
      intro ba
      refine l_e rfl ?_
      refine e_storeAgg rfl rfl Try.sizeOf57 rfl rfl rfl (by intro v hv; simp only [List.mem_cons, List.not_mem_nil, or_false] at hv; rcases hv with rfl | rfl <;> rfl) (by show 0 + 2 ≤ 2; decide) ?_
      refine cells_eq (rfl) ?_
      refine l_nil ?_
      refine k_then ?_
      refine c_seq ?_
      refine c_seq ?_
      refine bool_cases (b := x.done) (fun hd => ?_) (fun hd => ?_)
      · obtain ⟨pos, y, hmg, hyp, hone, hyc, hyk⟩ := ans_at h0 hx hd
        have hplt := (List.getElem?_eq_some_iff.1 hyp).1
        have hans : ansC i x y = { toC y i hi6 with a := x.a } := by unfold ansC; rw [if_pos ⟨hyc, hyk⟩, dif_pos hi6]
        have hcd : callsOf ops l (i + 1) = (callsOf ops l i).set pos ({ toC y i hi6 with a := x.a } : Ca) := by rw [hcs, ← hans, ← hone]; unfold callS; rw [if_pos hd]
        have hud : undOf ops l (i + 1) = mdel x.ck (undOf ops l i) := by rw [hus, if_pos hd]
        refine c_region _ rfl ?_
        refine l_q rfl (q_fieldAddr rfl Try.underlying52 rfl Try.sizeOf4 rfl rfl) rfl rfl ?_
        refine l_q rfl (q_loadC rfl Try.isAgg4 rfl (fun _ h => h.at 1 rfl) rfl) rfl rfl ?_
        refine l_q rfl (q_not rfl rfl) rfl rfl ?_
        refine l_nil ?_
        refine k_then ?_
        refine Pre.setB (t := 30) (c := false) rfl (by rw [hd]; rfl) ?_
        refine c_false rfl ?_
        refine c_skip ?_
        refine k_then ?_
        refine c_seq ?_
        refine c_region _ rfl ?_
        refine l_q rfl (q_move rfl rfl) rfl rfl ?_
        refine l_q rfl (q_loadCAgg ([.int .i64 x.client, .int .i64 x.index]) rfl Try.isAgg57 Try.sizeOf57 rfl (fun _ h => h.at 0 rfl) (rfl) (rfl)) rfl rfl ?_
        refine l_e rfl ?_
        refine e_lookup (l := undOf ops l i) (kf := kfC) (vf := vI) x.ck rfl rfl rfl Try.underlying56 keyC Try.zeroValue3 rfl rfl (fun _ h => h.at 3 rfl) ?_
        refine Pre.setV (t := 55) (c := .int .i64 (pos : Int)) rfl (by rw [hmg]) ?_
        refine l_q rfl (q_assign rfl rfl) rfl rfl ?_
        refine l_nil ?_
        refine k_then ?_
        refine c_seq ?_
        refine c_draw [(0, some true), (1, some true), (2, some true), (3, some true), (4, some true), (5, some true), (6, some true), (7, some false), (8, some true), (9, some false), (10, some false), (11, some true), (12, none)] [12] [(_, some true), (_, some true), (_, some true), (_, some true), (_, some true), (_, some true), (_, some true), (_, some false), (_, some true), (_, some false), (_, some false), (_, some true), (_, none)] (fun w2 => (cellsE be 52 x.c).at w2) (blind_then (blind_block (blind_then (blind_then (blind_block (blind_then blind_body)))))) rfl (by kernel_rfl) (by kernel_rfl) rfl rfl rfl (by kernel_rfl) St.drawn (fun _ h => h.at 1 rfl) ?_
        refine d_q rfl (q_move rfl rfl) rfl rfl ?_
        refine d_q rfl (q_move rfl rfl) rfl rfl ?_
        refine d_q rfl (q_move rfl rfl) rfl rfl ?_
        refine d_q rfl (q_move rfl rfl) rfl rfl ?_
        refine d_q rfl (q_move rfl rfl) rfl rfl ?_
        refine d_q rfl (q_fieldAddr rfl Try.underlying52 rfl Try.sizeOf45 rfl rfl) rfl rfl ?_
        refine d_q rfl (q_loadCAgg (x.a.c) rfl Try.isAgg45 Try.sizeOf45 rfl (fun _ h => h) (Ev.a_part _) (An.c_len _)) rfl rfl ?_
        have hls : ((callsOf ops l i).set pos (toC y i hi6)).length = (callsOf ops l i).length := List.length_set
        have hy2 : ((callsOf ops l i).set pos (toC y i hi6))[pos]? = some (toC y i hi6) := List.getElem?_set_self (by omega)
        refine d_e rfl ?_
        refine e_q rfl rfl (q_indexV pos rfl Try.underlying28 Try.sizeOf47 rfl (fun _ h => h.rd 2 rfl) rfl rfl (by omega)) ?_
        refine d_held (fun _ h => h.at 1 rfl) ?_
        refine d_q rfl (q_fieldAddr rfl Try.underlying47 rfl Try.sizeOf3 rfl rfl) rfl rfl ?_
        refine pull2 ?_
        refine d_e rfl ?_
        refine e_storeV pos 7 ((toC y i hi6)) rfl rfl Try.sizeOf3 rfl rfl rfl hyp (by decide) (set_to y i hi6) ?_
        refine d_held (fun _ h => h.at 2 rfl) ?_
        refine d_e rfl ?_
        refine e_q rfl rfl (q_indexV pos rfl Try.underlying28 Try.sizeOf47 rfl (fun _ h => h.rd 0 rfl) rfl rfl (by omega)) ?_
        refine d_held (fun _ h => h.at 2 rfl) ?_
        refine d_q rfl (q_fieldAddr rfl Try.underlying47 rfl Try.sizeOf45 rfl rfl) rfl rfl ?_
        refine d_t rfl ?_
        refine e_storeVPart pos 8 ({ toC y i hi6 with a := x.a } : Ca) rfl rfl Try.sizeOf45 rfl rfl rfl hy2 (An.c_len _) (by decide) (An.one _) (set_an _ _) ?_
        refine row_eq (List.set_set ..) ?_
        refine d_nil ?_
        refine k_then ?_
        refine c_region _ rfl ?_
        refine l_q rfl (q_move rfl rfl) rfl rfl ?_
        refine l_q rfl (q_loadCAgg ([.int .i64 x.client, .int .i64 x.index]) rfl Try.isAgg57 Try.sizeOf57 rfl (fun _ h => h.at 1 rfl) (rfl) (rfl)) rfl rfl ?_
        refine pull3 ?_
        refine l_e rfl ?_
        refine e_delete x.ck rfl rfl Try.underlying56 keyC rfl rfl ?_
        refine l_nil ?_
        refine k_block ?_
        refine k_then ?_
        refine c_region _ rfl ?_
        refine l_q rfl (q_inc rfl rfl rfl (by omega)) rfl rfl ?_
        refine l_q rfl (q_move rfl rfl) rfl rfl ?_
        refine l_nil ?_
        refine pull2 ?_
        refine drop0 ?_
        refine pull2 ?_
        refine drop0 ?_
        refine pull1 ?_
        exact k_round ((i + 1, v)) (by dsimp only; omega) (by dsimp only; omega) (Sub.cons rfl (Sub.cons rfl (Sub.cons rfl (Sub.cons rfl (Sub.cons rfl (Sub.cons rfl (Sub.nil))))))) (fun _ h => by dsimp only; rw [hcd, hud]; exact h)
      · have hcd : callsOf ops l i ++ [mkC x o i hi6] = callsOf ops l (i + 1) := by rw [hcs]; unfold callS newC; rw [if_neg (by rw [hd]; decide), dif_pos hi6, hop]
        have hud : undOf ops l (i + 1) = mput x.ck ((callsOf ops l i).length : Int) (undOf ops l i) := by rw [hus, if_neg (by rw [hd]; decide)]
        refine c_region _ rfl ?_
        refine l_q rfl (q_fieldAddr rfl Try.underlying52 rfl Try.sizeOf4 rfl rfl) rfl rfl ?_
        refine l_q rfl (q_loadC rfl Try.isAgg4 rfl (fun _ h => h.at 1 rfl) rfl) rfl rfl ?_
        refine l_q rfl (q_not rfl rfl) rfl rfl ?_
        refine l_nil ?_
        refine k_then ?_
        refine Pre.setB (t := 30) (c := true) rfl (by rw [hd]; rfl) ?_
        refine c_true rfl ?_
        refine c_seq ?_
        refine c_region _ rfl ?_
        refine l_q rfl (q_move rfl rfl) rfl rfl ?_
        refine l_q rfl (q_loadCAgg ([.int .i64 x.client, .int .i64 x.index]) rfl Try.isAgg57 Try.sizeOf57 rfl (fun _ h => h.at 0 rfl) (rfl) (rfl)) rfl rfl ?_
        refine l_q rfl (q_move rfl rfl) rfl rfl ?_
        refine l_q rfl (q_lenV rfl Try.underlying28 rfl (fun _ h => h.rd 2 rfl)) rfl rfl ?_
        refine pull3 ?_
        refine l_e rfl ?_
        refine e_put x.ck ((callsOf ops l i).length : Int) rfl rfl Try.underlying56 keyC rfl rfl rfl ?_
        refine l_nil ?_
        refine k_then ?_
        refine c_seq ?_
        refine c_draw [(0, some true), (1, some true), (2, some true), (3, some true), (4, some true), (5, some true), (6, some true), (7, some true), (8, some true), (9, some true), (10, some true), (11, some true), (12, some true), (13, some true), (14, some true), (15, some true), (16, some false), (17, some false), (18, some true)] [] [(_, some true), (_, some true), (_, some true), (_, some true), (_, some true), (_, some true), (_, some true), (_, some true), (_, some true), (_, some true), (_, some true), (_, some true), (_, some true), (_, some true), (_, some true), (_, some true), (_, some false), (_, some false), (_, some true)] (fun w2 => RdV w2 vo encSv vs ∧ RdV w2 s.v Op.enc lo ∧ (cellsE be 52 x.c).at w2) (blind_then (blind_then (blind_block (blind_then (blind_then (blind_block (blind_then blind_body))))))) rfl (by kernel_rfl) (by kernel_rfl) rfl rfl rfl (by kernel_rfl) St.drawn (fun _ h => ⟨hvo.keep h (by simp [dom]), hrd.keep h (by simp [dom]), h.at 2 rfl⟩) ?_
        refine d_q rfl (q_move rfl rfl) rfl rfl ?_
        refine d_q rfl (q_fieldAddr rfl Try.underlying52 rfl Try.sizeOf3 rfl rfl) rfl rfl ?_
        refine d_q rfl (q_loadC rfl Try.isAgg3 rfl (fun _ h => h.2.2) rfl) rfl rfl ?_
        refine d_q rfl (q_fieldAddr rfl Try.underlying52 rfl Try.sizeOf3 rfl rfl) rfl rfl ?_
        refine d_q rfl (q_loadC rfl Try.isAgg3 rfl (fun _ h => h.2.2) rfl) rfl rfl ?_
        refine d_q rfl (q_move rfl rfl) rfl rfl ?_
        refine d_q rfl (q_fieldAddr rfl Try.underlying52 rfl Try.sizeOf3 rfl rfl) rfl rfl ?_
        refine d_q rfl (q_loadC rfl Try.isAgg3 rfl (fun _ h => h.2.2) rfl) rfl rfl ?_
        refine d_q rfl (q_indexV c rfl Try.underlying23 Try.sizeOf38 rfl (fun _ h => h.1) rfl hc (by omega)) rfl rfl ?_
        refine d_q rfl (q_loadV c 0 rfl Try.isAgg38 rfl rfl (fun _ h => h.1) hs rfl) rfl rfl ?_
        refine d_q rfl (q_fieldAddr rfl Try.underlying52 rfl Try.sizeOf3 rfl rfl) rfl rfl ?_
        refine d_q rfl (q_loadC rfl Try.isAgg3 rfl (fun _ h => h.2.2) rfl) rfl rfl ?_
        refine d_q rfl (q_indexV k rfl Try.underlying38 Try.sizeOf37 rfl (fun _ h => h.2.1) rfl hxk (by omega)) rfl rfl ?_
        refine d_q rfl (q_loadVAgg k rfl Try.isAgg37 Try.sizeOf37 rfl rfl (fun _ h => h.2.1) ho) rfl rfl ?_
        refine d_q rfl (q_move rfl rfl) rfl rfl ?_
        refine d_q rfl (q_build ((mkC x o i hi6).c) rfl rfl (fun w => by kernel_rfl)) rfl rfl ?_
        refine d_e rfl ?_
        refine e_buildSliceV (sz := 27) [.tmp 50] rfl rfl rfl rfl rfl Try.underlying28 Try.sizeOf47 rfl Try.zeroValue47 (by simp [Value.cells, Ca.c_len]) ?_
        intro b3
        refine d_held (fun _ h => ⟨hvo.keep h (by simp [dom]), hrd.keep h (by simp [dom]), h.at 3 rfl⟩) ?_
        refine pull4 ?_
        refine d_e rfl ?_
        refine e_append rfl rfl rfl Try.underlying28 Try.underlying28 info47 rfl rfl rfl rfl rfl (fun _ h => lit_rd (h.at 1 rfl) Ca.enc [(mkC x o i hi6)] rfl rfl) (by simp only [byt47, List.length_append, List.length_cons, List.length_nil]; omega) (by simp only [List.length_append, List.length_cons, List.length_nil]; omega) ?_
        intro v2
        refine row_eq (hcd) ?_
        refine pull1 ?_
        refine drop0 ?_
        refine d_held (fun _ h => ⟨hvo.keep h (by simp [dom]), hrd.keep h (by simp [dom]), h.at 3 rfl⟩) ?_
        refine d_q rfl (q_assign rfl rfl) rfl rfl ?_
        refine d_nil ?_
        refine k_then ?_
        refine c_exit ?_
        refine k_then_exit ?_
        refine k_block_exit ?_
        refine k_then ?_
        refine c_region _ rfl ?_
        refine l_q rfl (q_inc rfl rfl rfl (by omega)) rfl rfl ?_
        refine l_q rfl (q_move rfl rfl) rfl rfl ?_
        refine l_nil ?_
        refine pull3 ?_
        refine drop0 ?_
        refine pull2 ?_
        refine drop0 ?_
        refine pull1 ?_
        refine pull1 ?_
        exact k_round ((i + 1, v2)) (by dsimp only; omega) (by dsimp only; omega) (Sub.cons rfl (Sub.cons rfl (Sub.cons rfl (Sub.cons rfl (Sub.cons rfl (Sub.cons rfl (Sub.nil))))))) (fun _ h => by dsimp only; rw [hud]; exact h)
    · try simp only [decide_eq_true_eq, decide_eq_false_iff_not, Bool.not_eq_true', Bool.not_eq_false'] at h1
      have hie : i = l.length := by omega
      subst hie
      refine pull1 ?_
      refine drop0 ?_
      refine c_false rfl ?_
      refine c_exit ?_
      refine k_then_exit ?_
      refine k_then_exit ?_
      refine k_block_exit ?_
      refine k_then ?_
      refine c_seq ?_
      refine c_region _ rfl ?_
      refine l_q rfl (q_move rfl rfl) rfl rfl ?_
      refine l_q rfl (q_assign rfl rfl) rfl rfl ?_
      refine l_nil ?_
      refine k_then ?_
      refine c_ret ?_
      refine r_one rfl rfl ?_
      exact fun _ h => ⟨v, rfl, trivial, by rw [if_pos h0]; exact h⟩
end Go.Proofs.Ythfdmeikpbkpaaa
