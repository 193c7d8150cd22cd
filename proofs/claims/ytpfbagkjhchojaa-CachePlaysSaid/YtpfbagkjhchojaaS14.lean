/- Maps whose stamps are unlike (entries may be taken away), and ranging over them; entries that are kept for reading. Over any program. -/
import Derived.Test.YtpfbagkjhchojaaS13
import Derived.Maps.RangeRun
set_option linter.unusedVariables false
set_option linter.unusedSimpArgs false
namespace Go.Sep
open Go.RowKit Go.MapKept Go.Proofs.Ytpfbagkjhchojaa
theorem eraseIdx_map' {α β : Type} (f : α → β) : ∀ (l : List α) (i : Nat), (l.eraseIdx i).map f = (l.map f).eraseIdx i
  | [], _ => rfl
  | _ :: _, 0 => rfl
  | _ :: l, i + 1 => by simp only [List.eraseIdx_cons_succ, List.map_cons]; rw [eraseIdx_map' f l i]
section plain
variable {α β : Type} [DecidableEq α]
def mdelT (a : α) : List (α × β) → List (α × β)
  | [] => []
  | (x, y) :: l => if a = x then l else (x, y) :: mdelT a l
theorem mdelT_none {a : α} : ∀ {l : List (α × β)} {i : Nat}, mfind a l i = none → mdelT a l = l
  | [], i, h => rfl
  | (x, y) :: l, i, h => by
    simp only [mfind] at h
    split at h
    · cases h
    · rename_i hne; simp only [mdelT, if_neg hne]; rw [mdelT_none h]
theorem mdelT_some {a : α} {y : β} : ∀ {l : List (α × β)} {i j : Nat}, mfind a l i = some (j, y) → i ≤ j ∧ mdelT a l = l.eraseIdx (j - i)
  | [], i, j, h => by cases h
  | (x, z) :: l, i, j, h => by
    simp only [mfind] at h
    split at h
    · rename_i he; cases h; simp [mdelT, he]
    · rename_i hne
      obtain ⟨h1, h2⟩ := mdelT_some h
      have e : j - i = (j - (i + 1)) + 1 := by omega
      simp only [mdelT, if_neg hne]
      rw [e, List.eraseIdx_cons_succ, h2]
      exact ⟨by omega, rfl⟩
theorem mget_delT {a b : α} (h : a ≠ b) : ∀ l : List (α × β), mget b (mdelT a l) = mget b l
  | [] => rfl
  | (x, y) :: l => by
    simp only [mdelT]
    by_cases e : a = x
    · subst e; rw [if_pos rfl]; simp only [mget, if_neg h.symm]
    · rw [if_neg e]; simp only [mget, mget_delT h l]
theorem mget_putT {a b : α} {v : β} (h : a ≠ b) : ∀ l : List (α × β), mget b (mput a v l) = mget b l
  | [] => by simp [mput, mget, h.symm]
  | (x, y) :: l => by
    simp only [mput]
    by_cases e : a = x
    · subst e; rw [if_pos rfl]; simp only [mget, if_neg h.symm]
    · rw [if_neg e]; simp only [mget, mget_putT h l]
end plain
section
variable {P : Program} {n : Nat} {L : Env} {X : World → Prop} {o : Oper} {Q : Exit → Act → World → Prop} {K : Act → World → Prop}
variable {w0 : World} {D : List Nat} {H : List Ent} {α β : Type} [DecidableEq α] {kf : α → Value} {vf : β → Value}
/-- Integers as keys. -/
theorem keyOk_int {kt : TypeId} (k : IntKind) (hu : P.underlying kt = some (.int k)) : KeyOk P kt (Value.int k) := by
  refine ⟨fun em w a => run_checkKey hu (show IsKey (.int k) (.int k a) from rfl) em 9999, fun w a es β vf l h => run_findKey hu ?_, fun a => ?_⟩
  · suffices ∀ (es : List MapEntry) (l : List (Int × β)) (i : Nat), es.map (fun e => (e.key, e.val)) = l.map (fun p => (Value.int k p.1, vf p.2)) → Instr.findNow (.int k) (.int k a) es i = some ((mfind a l i).map (fun p => (p.1, vf p.2))) from this es l 0 h
    intro es
    induction es with
    | nil => intro l i h; cases l with
      | nil => rfl
      | cons p l => cases h
    | cons e es ih =>
      intro l i h
      cases l with
      | nil => cases h
      | cons p l =>
        obtain ⟨x, y⟩ := p
        simp only [List.map_cons, List.cons.injEq, Prod.mk.injEq] at h
        obtain ⟨⟨h1, h2⟩, h3⟩ := h
        have hs : Instr.sameNow (.int k) (.int k a) e.key = some (decide (a = x)) := by
          rw [h1]
          show (if k = k then some (a == x) else none) = _
          rw [if_pos rfl]
          congr 1
        simp only [Instr.findNow, hs, mfind]
        by_cases hax : a = x
        · simp [hax, h2]
        · simp only [hax, decide_false, if_false]
          exact ih l (i + 1) h3
  · show (k == k && a == a) = true
    simp
/-- The stamps are unlike, and below the clock. -/
def Stamped (m : Array MapEntry) (c : Nat) : Prop := (∀ x ∈ m.toList, x.born < c) ∧ (m.toList.map (·.born)).Nodup
/-- A map in memory, its stamps unlike. -/
def mapT (b : Nat) (kf : α → Value) (vf : β → Value) (l : List (α × β)) : Ent := ⟨some b, fun o => ∃ m c, o = some (.map m c) ∧ m.toList.map (fun e => (e.key, e.val)) = l.map (fun p => (kf p.1, vf p.2)) ∧ Stamped m c⟩
omit [DecidableEq α] in
theorem mapT_map {b : Nat} {l : List (α × β)} {w : World} (h : (mapT b kf vf l).at w) : (mapE b kf vf l).at w := by
  obtain ⟨m, c, h1, h2, _⟩ := h; exact ⟨m, c, h1, h2⟩
omit [DecidableEq α] in
theorem mapT_obj {b : Nat} {l : List (α × β)} {w : World} (h : (mapT b kf vf l).at w) : ∃ m c, w.heap[b]? = some (.map m c) ∧ m.toList.map (fun e => (e.key, e.val)) = l.map (fun p => (kf p.1, vf p.2)) ∧ Stamped m c := h
omit [DecidableEq α] in
theorem e_makeMapT {t : TypeId} {d : Nat} (kf : α → Value) (vf : β → Value) (ho : o.op = .makeMap t none) (hd : o.dst = some d) (hn : d.blt n = true) (h : ∀ b, Pre n ((d, .map (some b)) :: L) (St w0 D (mapT b kf vf [] :: H)) K) : EOp P n L (St w0 D H) o Q K :=
  EOp.val (β := Nat) (fun b => .map (some b)) (fun _ => True) (fun b => St w0 D (mapT b kf vf [] :: H)) hd hn (fun a w k x =>
    ⟨w.heap.size, w.alloc (.map #[] 0), by simp [execOp, ho, Instr.makeMap, newObj]; rfl, trivial, x.alloc ⟨#[], 0, rfl, rfl, by intro x hx; simp at hx, List.nodup_nil⟩⟩) (fun b _ => h b)
omit [DecidableEq α] in
theorem stamped_push {m : Array MapEntry} {c : Nat} {k v : Value} (h : Stamped m c) : Stamped (m.push { key := k, val := v, born := c }) (c + 1) := by
  refine ⟨fun x hx => ?_, ?_⟩
  · rw [Array.toList_push] at hx
    rcases List.mem_append.1 hx with hx | hx
    · have := h.1 x hx; omega
    · simp only [List.mem_singleton] at hx; subst hx; exact Nat.lt_succ_self _
  · rw [Array.toList_push, List.map_append, List.nodup_append]
    refine ⟨h.2, by simp, fun a ha b hb e => ?_⟩
    obtain ⟨x, hx, rfl⟩ := List.mem_map.1 ha
    simp only [List.map_cons, List.map_nil, List.mem_singleton] at hb
    have := h.1 x hx
    omega
omit [DecidableEq α] in
theorem born_modify (m : Array MapEntry) (i : Nat) (k v : Value) : (m.modify i fun e => { e with key := k, val := v }).toList.map (·.born) = m.toList.map (·.born) := by
  refine List.ext_getElem? (fun j => ?_)
  simp only [List.getElem?_map, Array.getElem?_toList, Array.getElem?_modify]
  split
  · rename_i hij; subst hij; cases m[i]? <;> rfl
  · rfl
omit [DecidableEq α] in
theorem stamped_modify {m : Array MapEntry} {c i : Nat} {k v : Value} (h : Stamped m c) : Stamped (m.modify i fun e => { e with key := k, val := v }) c := by
  have hb := born_modify m i k v
  refine ⟨fun x hx => ?_, by rw [hb]; exact h.2⟩
  have : x.born ∈ m.toList.map (·.born) := by rw [← hb]; exact List.mem_map.2 ⟨x, hx, rfl⟩
  obtain ⟨y, hy, e⟩ := List.mem_map.1 this
  rw [← e]; exact h.1 y hy
omit [DecidableEq α] in
theorem stamped_erase {m : Array MapEntry} {c i : Nat} (h : Stamped m c) (hi : i < m.size) : Stamped (m.eraseIdxIfInBounds i) c := by
  have he : (m.eraseIdxIfInBounds i).toList = m.toList.eraseIdx i := by
    unfold Array.eraseIdxIfInBounds
    rw [dif_pos hi]; simp
  have hs : (m.toList.eraseIdx i).Sublist m.toList := List.eraseIdx_sublist ..
  exact ⟨fun x hx => h.1 x (hs.subset (by rw [he] at hx; exact hx)), by rw [he]; exact h.2.sublist (hs.map _)⟩
theorem run_putT {t kt vt : TypeId} {b : Nat} {l : List (α × β)} {w : World} (a : α) (v : β) (ht : P.underlying t = some (.map kt vt)) (hK : KeyOk P kt kf) (h : St w0 D (mapT b kf vf l :: H) w) :
    ∃ w', (Instr.mapUpdate t (.map (some b)) (kf a) (vf v)).run P w = .ok () w' ∧ St w0 D (mapT b kf vf (mput a v l) :: H) w' := by
  obtain ⟨m, c, hm, hl, hT⟩ := mapT_obj (h.at 0 rfl)
  have hlt : b < w.heap.size := (Array.getElem?_eq_some_iff.1 hm).1
  have hg : (getObj b).run P w = .ok (.map m c) w := by simp [getObj, Sem.run, hm]
  have hs : ∀ m' c', (setObj b (.map m' c')).run P w = .ok () { w with heap := w.heap.setIfInBounds b (.map m' c') } := fun m' c' => by simp [setObj, Sem.run, hm]
  have hst : ∀ (m' : Array MapEntry) (c' : Nat) (l' : List (α × β)), m'.toList.map (fun e => (e.key, e.val)) = l'.map (fun p => (kf p.1, vf p.2)) → Stamped m' c' → St w0 D (mapT b kf vf l' :: H) { w with heap := w.heap.setIfInBounds b (.map m' c') } := fun m' c' l' hl' hT' =>
    h.write rfl rfl rfl (by simp) (fun k hk => by simp [Array.getElem?_setIfInBounds, Ne.symm hk]) ⟨m', c', by simp [Array.getElem?_setIfInBounds, hlt], hl', hT'⟩
  have hf := hK.find w a m.toList β vf l hl
  unfold Instr.mapUpdate
  cases hfi : mfind a l 0 with
  | none =>
    rw [hfi] at hf
    simp only [Option.map_none] at hf
    refine ⟨_, by simp [run_und ht, hg, hK.ck, hf, hs], hst (m.push { key := kf a, val := vf v, born := c }) (c + 1) (mput a v l) ?_ (stamped_push hT)⟩
    rw [mfind_none hfi]
    simp [hl]
  | some p =>
    obtain ⟨i, y⟩ := p
    rw [hfi] at hf
    simp only [Option.map_some] at hf
    obtain ⟨_, h2, h3⟩ := mfind_some (v := v) hfi
    simp only [Nat.sub_zero] at h2 h3
    have hi : i < m.size := by
      have h5 := (List.getElem?_eq_some_iff.1 h2).1
      have := congrArg List.length hl
      simp at this; omega
    have hk : (m[i]?.map (·.key)).getD (kf a) = kf a := by
      have h6 : (m.toList.map (fun e => (e.key, e.val)))[i]? = some (kf a, vf y) := by rw [hl]; simp [h2]
      simp only [List.getElem?_map, Array.getElem?_toList, Option.map_eq_some_iff] at h6
      obtain ⟨e, he, h7⟩ := h6
      rw [he]
      simp only [Option.map_some, Option.getD_some]
      exact congrArg Prod.fst h7
    have hks : (Instr.keyThatStays (kf a) (kf a)).run P w = .ok (kf a) w := by unfold Instr.keyThatStays; rw [if_pos (hK.same a)]; rfl
    refine ⟨_, by simp [run_und ht, hg, hK.ck, hf, hk, hks, hs], hst (m.modify i fun e => { e with key := kf a, val := vf v }) c (mput a v l) ?_ (stamped_modify hT)⟩
    rw [h3]
    refine List.ext_getElem? (fun j => ?_)
    have hlj : (m.toList.map (fun e => (e.key, e.val)))[j]? = (l.map (fun p => (kf p.1, vf p.2)))[j]? := by rw [hl]
    simp only [List.getElem?_map, Array.getElem?_toList] at hlj
    simp only [List.getElem?_map, Array.getElem?_toList, Array.getElem?_modify, List.getElem?_set]
    by_cases hij : i = j
    · subst hij
      have h5 := (List.getElem?_eq_some_iff.1 h2).1
      simp [hi, h5]
    · simp only [if_neg hij]
      exact hlj
theorem e_putT {t kt vt : TypeId} {x k y : Operand} {b : Nat} {l : List (α × β)} (a : α) (v : β) (ho : o.op = .mapUpdate t x k y) (hd : o.dst = none) (ht : P.underlying t = some (.map kt vt)) (hK : KeyOk P kt kf)
    (hx : ev L x = some (.map (some b))) (hk : ev L k = some (kf a)) (hy : ev L y = some (vf v)) (h : Pre n L (St w0 D (mapT b kf vf (mput a v l) :: H)) K) : EOp P n L (St w0 D (mapT b kf vf l :: H)) o Q K :=
  EOp.skip _ hd (fun ac w kn hX => by
    obtain ⟨w', hr, h'⟩ := run_putT (P := P) a v ht hK hX
    exact ⟨w', by simp [execOp, ho, kn.eval hx, kn.eval hk, kn.eval hy, hr], h'⟩) h
theorem run_deleteT {t kt vt t2 ty : TypeId} {b : Nat} {l : List (α × β)} {w : World} (a : α) (ht : P.underlying t = some (.map kt vt)) (hK : KeyOk P kt kf) (h : St w0 D (mapT b kf vf l :: H) w) :
    ∃ w', (Builtin.delete_ #[t, t2] ty #[.map (some b), kf a]).run P w = .ok (.tuple #[]) w' ∧ St w0 D (mapT b kf vf (mdelT a l) :: H) w' := by
  obtain ⟨m, c, hm, hl, hT⟩ := mapT_obj (h.at 0 rfl)
  have hlt : b < w.heap.size := (Array.getElem?_eq_some_iff.1 hm).1
  have hg : (getObj b).run P w = .ok (.map m c) w := by simp [getObj, Sem.run, hm]
  have hs : ∀ m' c', (setObj b (.map m' c')).run P w = .ok () { w with heap := w.heap.setIfInBounds b (.map m' c') } := fun m' c' => by simp [setObj, Sem.run, hm]
  have hst : ∀ (m' : Array MapEntry) (c' : Nat) (l' : List (α × β)), m'.toList.map (fun e => (e.key, e.val)) = l'.map (fun p => (kf p.1, vf p.2)) → Stamped m' c' → St w0 D (mapT b kf vf l' :: H) { w with heap := w.heap.setIfInBounds b (.map m' c') } := fun m' c' l' hl' hT' =>
    h.write rfl rfl rfl (by simp) (fun k hk => by simp [Array.getElem?_setIfInBounds, Ne.symm hk]) ⟨m', c', by simp [Array.getElem?_setIfInBounds, hlt], hl', hT'⟩
  have hf := hK.find w a m.toList β vf l hl
  unfold Builtin.delete_
  cases hfi : mfind a l 0 with
  | none =>
    rw [hfi] at hf
    simp only [Option.map_none] at hf
    refine ⟨_, by simp [run_und ht, hg, hK.ck, hf, hs], hst m c (mdelT a l) ?_ hT⟩
    rw [mdelT_none hfi]; exact hl
  | some p =>
    obtain ⟨i, y⟩ := p
    rw [hfi] at hf
    simp only [Option.map_some] at hf
    obtain ⟨_, h2⟩ := mdelT_some hfi
    rw [Nat.sub_zero] at h2
    have hml : m.size = l.length := by have := congrArg List.length hl; simpa using this
    have hi : i < m.size := by
      obtain ⟨_, h5, _⟩ := mfind_some (v := y) hfi
      have := (List.getElem?_eq_some_iff.1 h5).1
      omega
    refine ⟨_, by simp [run_und ht, hg, hK.ck, hf, hs], hst (m.eraseIdxIfInBounds i) c (mdelT a l) ?_ (stamped_erase hT hi)⟩
    rw [h2]
    have he : (m.eraseIdxIfInBounds i).toList = m.toList.eraseIdx i := by
      unfold Array.eraseIdxIfInBounds
      rw [dif_pos hi]; simp
    rw [he, eraseIdx_map', hl, eraseIdx_map']
theorem e_deleteT {t kt vt t2 : TypeId} {x k : Operand} {b : Nat} {l : List (α × β)} (a : α) (ho : o.op = .call ⟨.builtin .delete, #[x, k], #[t, t2]⟩) (hd : o.dst = none) (ht : P.underlying t = some (.map kt vt)) (hK : KeyOk P kt kf)
    (hx : ev L x = some (.map (some b))) (hk : ev L k = some (kf a)) (h : Pre n L (St w0 D (mapT b kf vf (mdelT a l) :: H)) K) : EOp P n L (St w0 D (mapT b kf vf l :: H)) o Q K :=
  EOp.val0 (β := Unit) (fun _ => .tuple #[]) (fun _ => True) (fun _ => St w0 D (mapT b kf vf (mdelT a l) :: H)) hd (fun ac w kn hX => by
    obtain ⟨w', hr, h'⟩ := run_deleteT (P := P) (t2 := t2) (ty := o.type) a ht hK hX
    exact ⟨(), w', by simp [execOp, ho, resolve, invoke, builtin, kn.eval hx, kn.eval hk, hr], trivial, h'⟩) (fun _ _ => h)
/-- m[k] and whether it is there. -/
theorem q_lookupOk {t kt vt : TypeId} {x k : Operand} {b : Nat} {l : List (α × β)} (a : α) {z : Value} (ho : o.op = .lookup t x k true) (ht : P.underlying t = some (.map kt vt)) (hK : KeyOk P kt kf) (hz : ∀ w, (zeroValue vt).run P w = .ok z w)
    (hx : ev L x = some (.map (some b))) (hk : ev L k = some (kf a)) (hr : ∀ w, X w → (mapT b kf vf l).at w) : QOp P n L X o (.tuple #[match mget a l with | some y => vf y | none => z, .bool (mget a l).isSome]) := fun ac w kn hX => by
  have := run_lookup (P := P) a ht hK hz (mapT_map (hr w hX)) true
  simp only [if_true] at this
  simp [execOp, ho, kn.eval hx, kn.eval hk, this]
  rfl
theorem q_lookupT {t kt vt : TypeId} {x k : Operand} {b : Nat} {l : List (α × β)} (a : α) {z : Value} (ho : o.op = .lookup t x k false) (ht : P.underlying t = some (.map kt vt)) (hK : KeyOk P kt kf) (hz : ∀ w, (zeroValue vt).run P w = .ok z w)
    (hx : ev L x = some (.map (some b))) (hk : ev L k = some (kf a)) (hr : ∀ w, X w → (mapT b kf vf l).at w) : QOp P n L X o (match mget a l with | some y => vf y | none => z) := fun ac w kn hX => by
  have := run_lookup (P := P) a ht hK hz (mapT_map (hr w hX)) false
  simp only [Bool.false_eq_true, if_false] at this
  simp [execOp, ho, kn.eval hx, kn.eval hk, this]
  rfl

/-! ## Ranging over a map that stays -/
/-- A map's block, its entries and clock said. -/
def mapX (b : Nat) (m : Array MapEntry) (c : Nat) (w : World) : Prop := w.heap[b]? = some (.map m c)
/-- An iterator. -/
def itE (r b c : Nat) (seen : Array Nat) : Ent := ⟨some r, fun o => o = some (.mapIter (some b) c seen c)⟩
omit [DecidableEq α] in
theorem mapX_keep {b : Nat} {m : Array MapEntry} {c : Nat} {w : World} (h : mapX b m c w0) (s : St w0 D H w) (hD : b ∉ D) : mapX b m c w := (s.keep.block b (Array.getElem?_eq_some_iff.1 h).1 hD).trans h
omit [DecidableEq α] in
theorem e_range {t kt vt : TypeId} {x : Operand} {d b c : Nat} {m : Array MapEntry} (ho : o.op = .range t x) (hd : o.dst = some d) (hn : d.blt n = true) (ht : P.underlying t = some (.map kt vt)) (hx : ev L x = some (.map (some b))) (hr : ∀ w, St w0 D H w → mapX b m c w)
    (h : ∀ r, Pre n ((d, .pointer (some ⟨r, 0, none⟩)) :: L) (St w0 D (itE r b c #[] :: H)) K) : EOp P n L (St w0 D H) o Q K :=
  EOp.val (β := Nat) (fun r => .pointer (some ⟨r, 0, none⟩)) (fun _ => True) (fun r => St w0 D (itE r b c #[] :: H)) hd hn (fun a w k s =>
    ⟨w.heap.size, _, by simp [execOp, ho, k.eval hx, run_range_map w t kt vt b m c ht (hr w s)], trivial, s.alloc rfl⟩) (fun r _ => h r)
omit [DecidableEq α] in
theorem e_next {x : Operand} {d r b c : Nat} {m : Array MapEntry} {seen : Array Nat} (ho : o.op = .next x false) (hd : o.dst = some d) (hn : d.blt n = true) (hx : ev L x = some (.pointer (some ⟨r, 0, none⟩))) (hT : ∀ x ∈ m.toList, x.born < c)
    (hr : ∀ w, St w0 D (itE r b c seen :: H) w → mapX b m c w)
    (h1 : (leftOf m seen).size = 0 → Pre n ((d, .tuple #[.bool false]) :: L) (St w0 D (itE r b c seen :: H)) K)
    (h2 : ∀ e, e ∈ (leftOf m seen).toList → Pre n ((d, .tuple #[.bool true, e.key, e.val]) :: L) (St w0 D (itE r b c (seen.push e.born) :: H)) K) : EOp P n L (St w0 D (itE r b c seen :: H)) o Q K :=
  EOp.val (β := Option MapEntry) (fun y => match y with | none => .tuple #[.bool false] | some e => .tuple #[.bool true, e.key, e.val]) (fun y => match y with | none => (leftOf m seen).size = 0 | some e => e ∈ (leftOf m seen).toList)
    (fun y => match y with | none => St w0 D (itE r b c seen :: H) | some e => St w0 D (itE r b c (seen.push e.born) :: H)) hd hn (fun a w k s => by
    have hit : w.heap[r]? = some (.mapIter (some b) c seen c) := s.at 0 rfl
    rcases run_next_at (P := P) w o.type r b c c seen m c hit (hr w s) hT (Nat.le_refl _) with ⟨h0, hrun⟩ | ⟨e, he, w1, hw1, hrun⟩
    · exact ⟨none, w, by simp [execOp, ho, k.eval hx, hrun], h0, s⟩
    · refine ⟨some e, ChangeMaps.setBlock w1 r (.mapIter (some b) c (seen.push e.born) c), by simp [execOp, ho, k.eval hx, hrun], he, ?_⟩
      have s1 : St w0 D (itE r b c seen :: H) w1 := by
        rcases hw1 with rfl | rfl
        · exact s
        · exact s.drew
      have hlt : r < w1.heap.size := by
        have : w1.heap[r]? = some (.mapIter (some b) c seen c) := s1.at 0 rfl
        exact (Array.getElem?_eq_some_iff.1 this).1
      exact s1.write rfl rfl rfl (by simp [ChangeMaps.setBlock]) (fun k hk => by simp [ChangeMaps.setBlock, Array.getElem?_setIfInBounds, Ne.symm hk]) (by simp [ChangeMaps.setBlock, Array.getElem?_setIfInBounds, hlt])) (fun y hy => by
    cases y with
    | none => exact h1 hy
    | some e => exact h2 e hy)
omit [DecidableEq α] in
theorem q_entry {x : Operand} {r b c : Nat} {m : Array MapEntry} {seen : Array Nat} {e : MapEntry} (ho : o.op = .entry x) (hx : ev L x = some (.pointer (some ⟨r, 0, none⟩))) (hn : (m.toList.map (·.born)).Nodup) (he : e ∈ m.toList)
    (hr : ∀ w, X w → mapX b m c w) (hi : ∀ w, X w → (itE r b c (seen.push e.born)).at w) : QOp P n L X o (.tuple #[e.key, e.val]) := fun a w k hX => by
  have := run_entry_at (P := P) w r b c seen m c e (hi w hX) (hr w hX) he hn
  simp [execOp, ho, k.eval hx, this]
/-- How many are left. -/
def leftN (m : Array MapEntry) (seen : Array Nat) : Nat := (m.toList.filter (fun e => !seen.contains e.born)).length
omit [DecidableEq α] in
theorem left_mem {m : Array MapEntry} {seen : Array Nat} {e : MapEntry} (h : e ∈ (leftOf m seen).toList) : e ∈ m.toList ∧ seen.contains e.born = false := by
  unfold leftOf at h
  rw [Array.toList_filter] at h
  obtain ⟨h1, h2⟩ := List.mem_filter.1 h
  exact ⟨h1, by simpa using h2⟩
omit [DecidableEq α] in
theorem left_less {m : Array MapEntry} {seen : Array Nat} {e : MapEntry} (h : e ∈ (leftOf m seen).toList) : leftN m (seen.push e.born) < leftN m seen := by
  obtain ⟨h1, h2⟩ := left_mem h
  unfold leftN
  have h3 : ¬ e.born ∈ seen := by simpa using h2
  refine filter_lt _ _ (fun x hx => ?_) e (by simp [h3]) (by simp) m.toList h1
  simp only [Array.contains_push, Bool.not_or, Bool.and_eq_true] at hx
  simp_all
omit [DecidableEq α] in
theorem left_none {m : Array MapEntry} {seen : Array Nat} (h : (leftOf m seen).size = 0) : ∀ e ∈ m.toList, seen.contains e.born = true := by
  intro e he
  cases hc : seen.contains e.born with
  | true => rfl
  | false =>
    have : e ∈ (leftOf m seen).toList := by
      unfold leftOf; rw [Array.toList_filter]; exact List.mem_filter.2 ⟨he, by simpa using hc⟩
    have h0 : (leftOf m seen).toList.length = 0 := by simpa using h
    rw [List.eq_nil_of_length_eq_zero h0] at this
    cases this
/-- What is known of a block that stood at the start stays. -/
theorem Ent.keep {e : Ent} {w : World} {b : Nat} (h : e.at w0) (s : St w0 D H w) (hb : e.b = some b) (hlt : b < w0.heap.size) (hD : b ∉ D) : e.at w := Ent.at_congr (fun k hk => by rw [hb] at hk; cases hk; exact s.keep.block b hlt hD) h
omit [DecidableEq α] in
theorem cellsE_keep {b : Nat} {t : TypeId} {cs : List Value} {w : World} (h : (cellsE b t cs).at w0) (s : St w0 D H w) (hD : b ∉ D) : (cellsE b t cs).at w := by
  have h' : w0.heap[b]? = some (.cells cs.toArray t (0, 0)) := h
  exact Ent.keep h s rfl (Array.getElem?_eq_some_iff.1 h').1 hD
omit [DecidableEq α] in
theorem mapT_keep {b : Nat} {l : List (α × β)} {w : World} (h : (mapT b kf vf l).at w0) (s : St w0 D H w) (hD : b ∉ D) : (mapT b kf vf l).at w := by
  obtain ⟨m, c, h1, _⟩ := mapT_obj h
  exact Ent.keep h s rfl (Array.getElem?_eq_some_iff.1 h1).1 hD
end
end Go.Sep
