/- Maps with their stamps: an entry made, and its value put; strings as keys. Over any program. -/
import Derived.Test.YtpfbagkjhchojaaS12
import Derived.MapKept
set_option linter.unusedVariables false
set_option linter.unusedSimpArgs false
namespace Go.Sep
open Go.RowKit Go.MapKept Go.Proofs.Ytpfbagkjhchojaa
section plain
variable {α β : Type} [DecidableEq α]
/-- Where a key stands or will stand. -/
def mpos (a : α) : List (α × β) → Nat
  | [] => 0
  | (x, _) :: l => if a = x then 0 else mpos a l + 1
theorem mput_set' (a : α) (v u : β) : ∀ l : List (α × β), (mput a v l).set (mpos a l) (a, u) = mput a u l
  | [] => rfl
  | (x, y) :: l => by
    simp only [mput, mpos]
    by_cases h : a = x
    · simp [h]
    · simp only [if_neg h, List.set_cons_succ]; rw [mput_set' a v u l]
theorem mput_pos (a : α) (v : β) : ∀ l : List (α × β), (mput a v l)[mpos a l]? = some (a, v)
  | [] => rfl
  | (x, y) :: l => by
    simp only [mput, mpos]
    by_cases h : a = x
    · simp [h]
    · simp only [if_neg h, List.getElem?_cons_succ]; exact mput_pos a v l
theorem mget_put (a : α) (v : β) : ∀ l : List (α × β), mget a (mput a v l) = some v
  | [] => by simp [mput, mget]
  | (x, y) :: l => by
    simp only [mput]
    by_cases h : a = x
    · subst h; simp [mget]
    · simp only [if_neg h, mget]; exact mget_put a v l
theorem mfind_pos {a : α} {y : β} : ∀ {l : List (α × β)} {i j : Nat}, mfind a l i = some (j, y) → j = i + mpos a l
  | [], i, j, h => by cases h
  | (x, z) :: l, i, j, h => by
    simp only [mfind] at h
    simp only [mpos]
    split at h
    · rename_i he; cases h; simp [he]
    · rename_i hne; have := mfind_pos h; rw [if_neg hne]; omega
theorem mfind_len {a : α} : ∀ {l : List (α × β)} {i : Nat}, mfind a l i = none → mpos a l = l.length
  | [], i, h => rfl
  | (x, z) :: l, i, h => by
    simp only [mfind] at h
    simp only [mpos]
    split at h
    · cases h
    · rename_i hne; rw [if_neg hne, mfind_len h]; rfl
end plain
section
variable {P : Program} {n : Nat} {L : Env} {X : World → Prop} {o : Oper} {Q : Exit → Act → World → Prop} {K : Act → World → Prop}
variable {w0 : World} {D : List Nat} {H : List Ent} {α β : Type} [DecidableEq α] {kf : α → Value} {vf : β → Value}
/-- Strings as keys. -/
theorem keyOk_str {kt : TypeId} (hu : P.underlying kt = some .string) : KeyOk P kt Value.string := by
  refine ⟨fun em w a => run_checkKey hu (show IsKey .string (.string a) from trivial) em 9999, fun w a es β vf l h => run_findKey hu ?_, fun a => ?_⟩
  · suffices ∀ (es : List MapEntry) (l : List (ByteArray × β)) (i : Nat), es.map (fun e => (e.key, e.val)) = l.map (fun p => (Value.string p.1, vf p.2)) → Instr.findNow .string (.string a) es i = some ((mfind a l i).map (fun p => (p.1, vf p.2))) from this es l 0 h
    intro es
    induction es with
    | nil => intro l i h; cases l with
      | nil => rfl
      | cons p l => cases h
    | cons e es ih =>
      intro l i h
      cases l with
      | nil => cases h
      | cons p l =>
        obtain ⟨x, y⟩ := p
        simp only [List.map_cons, List.cons.injEq, Prod.mk.injEq] at h
        obtain ⟨⟨h1, h2⟩, h3⟩ := h
        have hs : Instr.sameNow .string (.string a) e.key = some (decide (a = x)) := by rw [h1]; exact congrArg some (by rw [Bool.eq_iff_iff, bytes_beq, decide_eq_true_eq])
        simp only [Instr.findNow, hs, mfind]
        by_cases hax : a = x
        · simp [hax, h2]
        · simp only [hax, decide_false, if_false]
          exact ih l (i + 1) h3
  · exact (bytes_beq a a).2 rfl
/-- A map in memory, of which no entry was ever taken away: the stamps are the places. -/
def mapS (b : Nat) (kf : α → Value) (vf : β → Value) (l : List (α × β)) : Ent := ⟨some b, fun o => ∃ m c, o = some (.map m c) ∧ m.toList.map (fun e => (e.key, e.val)) = l.map (fun p => (kf p.1, vf p.2)) ∧ (∀ (i : Nat) (e : MapEntry), m[i]? = some e → e.born = i) ∧ c = m.size⟩
omit [DecidableEq α] in
theorem mapS_map {b : Nat} {l : List (α × β)} {w : World} (h : (mapS b kf vf l).at w) : (mapE b kf vf l).at w := by
  obtain ⟨m, c, h1, h2, _⟩ := h; exact ⟨m, c, h1, h2⟩
omit [DecidableEq α] in
theorem mapS_obj {b : Nat} {l : List (α × β)} {w : World} (h : (mapS b kf vf l).at w) : ∃ m c, w.heap[b]? = some (.map m c) ∧ m.toList.map (fun e => (e.key, e.val)) = l.map (fun p => (kf p.1, vf p.2)) ∧ (∀ (i : Nat) (e : MapEntry), m[i]? = some e → e.born = i) ∧ c = m.size := h
omit [DecidableEq α] in
theorem e_makeMapS {t : TypeId} {d : Nat} (kf : α → Value) (vf : β → Value) (ho : o.op = .makeMap t none) (hd : o.dst = some d) (hn : d.blt n = true) (h : ∀ b, Pre n ((d, .map (some b)) :: L) (St w0 D (mapS b kf vf [] :: H)) K) : EOp P n L (St w0 D H) o Q K :=
  EOp.val (β := Nat) (fun b => .map (some b)) (fun _ => True) (fun b => St w0 D (mapS b kf vf [] :: H)) hd hn (fun a w k x =>
    ⟨w.heap.size, w.alloc (.map #[] 0), by simp [execOp, ho, Instr.makeMap, newObj]; rfl, trivial, x.alloc ⟨#[], 0, rfl, rfl, by simp, rfl⟩⟩) (fun b _ => h b)
theorem run_entry {t kt vt : TypeId} {b : Nat} {l : List (α × β)} {w : World} (a : α) (z : β) (ht : P.underlying t = some (.map kt vt)) (hK : KeyOk P kt kf) (hz : ∀ w, (zeroValue vt).run P w = .ok (vf z) w) (h : St w0 D (mapS b kf vf l :: H) w) :
    ∃ w', (Instr.mapEntry t (.map (some b)) (kf a)).run P w = .ok (.tuple #[vf ((mget a l).getD z), .int .i64 (mpos a l : Int)]) w' ∧ St w0 D (mapS b kf vf (mput a ((mget a l).getD z) l) :: H) w' := by
  obtain ⟨m, c, hm, hl, hborn, hc⟩ := mapS_obj (h.at 0 rfl)
  have hlt : b < w.heap.size := (Array.getElem?_eq_some_iff.1 hm).1
  have hg : (getObj b).run P w = .ok (.map m c) w := by simp [getObj, Sem.run, hm]
  have hs : ∀ m' c', (setObj b (.map m' c')).run P w = .ok () { w with heap := w.heap.setIfInBounds b (.map m' c') } := fun m' c' => by simp [setObj, Sem.run, hm]
  have hst : ∀ (m' : Array MapEntry) (c' : Nat) (l' : List (α × β)), m'.toList.map (fun e => (e.key, e.val)) = l'.map (fun p => (kf p.1, vf p.2)) → (∀ (i : Nat) (e : MapEntry), m'[i]? = some e → e.born = i) → c' = m'.size → St w0 D (mapS b kf vf l' :: H) { w with heap := w.heap.setIfInBounds b (.map m' c') } := fun m' c' l' hl' hb' hc' =>
    h.write rfl rfl rfl (by simp) (fun k hk => by simp [Array.getElem?_setIfInBounds, Ne.symm hk]) ⟨m', c', by simp [Array.getElem?_setIfInBounds, hlt], hl', hb', hc'⟩
  have hf := hK.find w a m.toList β vf l hl
  have hml : m.size = l.length := by have := congrArg List.length hl; simpa using this
  have hmg := mfind_get (a := a) (l := l) (i := 0)
  unfold Instr.mapEntry
  cases hfi : mfind a l 0 with
  | none =>
    rw [hfi] at hf hmg
    simp only [Option.map_none] at hf hmg
    have hp := mfind_len hfi
    refine ⟨_, by simp [run_und ht, hg, hK.ck, hf, hs, hz, hmg, goInt, hc, hml, hp], hst (m.push { key := kf a, val := vf z, born := c }) (c + 1) (mput a ((mget a l).getD z) l) ?_ ?_ ?_⟩
    · rw [hmg, mfind_none hfi]
      simp [hl]
    · intro i e he
      rw [Array.getElem?_push] at he
      split at he
      · cases he; rename_i hi; rw [hi, hc]
      · exact hborn i e he
    · simp [hc]
  | some p =>
    obtain ⟨i, y⟩ := p
    rw [hfi] at hf hmg
    simp only [Option.map_some] at hf hmg
    obtain ⟨_, h2, h3⟩ := mfind_some (v := y) hfi
    have hp := mfind_pos hfi
    simp only [Nat.sub_zero] at h2 h3
    rw [Nat.zero_add] at hp
    have hi : i < m.size := by
      have h5 := (List.getElem?_eq_some_iff.1 h2).1
      omega
    have hk : (m[i]?.map (·.key)).getD (kf a) = kf a := by
      have h6 : (m.toList.map (fun e => (e.key, e.val)))[i]? = some (kf a, vf y) := by rw [hl]; simp [h2]
      simp only [List.getElem?_map, Array.getElem?_toList, Option.map_eq_some_iff] at h6
      obtain ⟨e, he, h7⟩ := h6
      rw [he]
      simp only [Option.map_some, Option.getD_some]
      exact congrArg Prod.fst h7
    have hbn : (m[i]?.map (fun x => (x.born : Int))).getD 0 = (mpos a l : Int) := by
      rw [Array.getElem?_eq_getElem hi]
      simp only [Option.map_some, Option.getD_some]
      rw [hborn i m[i] (Array.getElem?_eq_getElem hi), hp]
    have hks : (Instr.keyThatStays (kf a) (kf a)).run P w = .ok (kf a) w := by unfold Instr.keyThatStays; rw [if_pos (hK.same a)]; rfl
    refine ⟨_, by simp [run_und ht, hg, hK.ck, hf, hk, hks, hs, hmg, goInt, hbn], hst (m.modify i fun e => { e with key := kf a }) c (mput a ((mget a l).getD z) l) ?_ ?_ ?_⟩
    · rw [hmg]
      show _ = (mput a y l).map _
      rw [h3]
      refine List.ext_getElem? (fun j => ?_)
      have hlj : (m.toList.map (fun e => (e.key, e.val)))[j]? = (l.map (fun p => (kf p.1, vf p.2)))[j]? := by rw [hl]
      simp only [List.getElem?_map, Array.getElem?_toList] at hlj
      simp only [List.getElem?_map, Array.getElem?_toList, Array.getElem?_modify, List.getElem?_set]
      by_cases hij : i = j
      · subst hij
        have h5 := (List.getElem?_eq_some_iff.1 h2).1
        rw [h2, Array.getElem?_eq_getElem hi] at hlj
        simp only [Option.map_some, Option.some.injEq, Prod.mk.injEq] at hlj
        simp [hi, h5, hlj.2]
      · simp only [if_neg hij]
        exact hlj
    · intro j e he
      rw [Array.getElem?_modify] at he
      split at he
      · rename_i hij
        subst hij
        rw [Array.getElem?_eq_getElem hi] at he
        simp only [Option.map_some, Option.some.injEq] at he
        subst he
        exact hborn i m[i] (Array.getElem?_eq_getElem hi)
      · exact hborn j e he
    · simp [hc]
theorem e_entry {t kt vt : TypeId} {x k : Operand} {b d : Nat} {l : List (α × β)} (a : α) (z : β) (ho : o.op = .mapEntry t x k) (hd : o.dst = some d) (hn : d.blt n = true) (ht : P.underlying t = some (.map kt vt)) (hK : KeyOk P kt kf) (hz : ∀ w, (zeroValue vt).run P w = .ok (vf z) w)
    (hx : ev L x = some (.map (some b))) (hk : ev L k = some (kf a)) (h : Pre n ((d, .tuple #[vf ((mget a l).getD z), .int .i64 (mpos a l : Int)]) :: L) (St w0 D (mapS b kf vf (mput a ((mget a l).getD z) l) :: H)) K) : EOp P n L (St w0 D (mapS b kf vf l :: H)) o Q K :=
  EOp.val (β := Unit) (fun _ => .tuple #[vf ((mget a l).getD z), .int .i64 (mpos a l : Int)]) (fun _ => True) (fun _ => St w0 D (mapS b kf vf (mput a ((mget a l).getD z) l) :: H)) hd hn (fun ac w kn hX => by
    obtain ⟨w', hr, h'⟩ := run_entry (P := P) a z ht hK hz hX
    exact ⟨(), w', by simp [execOp, ho, kn.eval hx, kn.eval hk, hr], trivial, h'⟩) (fun _ _ => h)
omit [DecidableEq α] in
theorem run_entryStore {t : TypeId} {b j : Nat} {l : List (α × β)} {w : World} {a : α} {y : β} (v : β) (hj : l[j]? = some (a, y)) (h : St w0 D (mapS b kf vf l :: H) w) :
    ∃ w', (Instr.entryStore t (.map (some b)) (.int .i64 (j : Int)) (vf v)).run P w = .ok () w' ∧ St w0 D (mapS b kf vf (l.set j (a, v)) :: H) w' := by
  obtain ⟨m, c, hm, hl, hborn, hc⟩ := mapS_obj (h.at 0 rfl)
  have hlt : b < w.heap.size := (Array.getElem?_eq_some_iff.1 hm).1
  have hg : (getObj b).run P w = .ok (.map m c) w := by simp [getObj, Sem.run, hm]
  have hs : ∀ m' c', (setObj b (.map m' c')).run P w = .ok () { w with heap := w.heap.setIfInBounds b (.map m' c') } := fun m' c' => by simp [setObj, Sem.run, hm]
  have hml : m.size = l.length := by have := congrArg List.length hl; simpa using this
  have hjl := (List.getElem?_eq_some_iff.1 hj).1
  have hjm : j < m.size := by omega
  have hfx : m.findIdx? (fun e => (e.born : Int) == (j : Int)) = some j := by
    rw [Array.findIdx?_eq_some_iff_getElem]
    refine ⟨hjm, ?_, fun i hi => ?_⟩
    · rw [hborn j m[j] (Array.getElem?_eq_getElem hjm)]; simp
    · rw [hborn i m[i] (Array.getElem?_eq_getElem (by omega))]; simp; omega
  refine ⟨{ w with heap := w.heap.setIfInBounds b (.map (m.modify j fun e => { e with val := vf v }) c) }, ?_, h.write rfl rfl rfl (by simp) (fun k hk => by simp [Array.getElem?_setIfInBounds, Ne.symm hk]) ⟨m.modify j fun e => { e with val := vf v }, c, by simp [Array.getElem?_setIfInBounds, hlt], ?_, ?_, by simp [hc]⟩⟩
  · have ha : (asInt (.int .i64 (j : Int))).run P w = .ok (j : Int) w := rfl
    simp [Instr.entryStore, hg, ha, hfx, hs]
  · refine List.ext_getElem? (fun i => ?_)
    have hlj : (m.toList.map (fun e => (e.key, e.val)))[i]? = (l.map (fun p => (kf p.1, vf p.2)))[i]? := by rw [hl]
    simp only [List.getElem?_map, Array.getElem?_toList] at hlj
    simp only [List.getElem?_map, Array.getElem?_toList, Array.getElem?_modify, List.getElem?_set]
    by_cases hij : j = i
    · subst hij
      rw [hj, Array.getElem?_eq_getElem hjm] at hlj
      simp only [Option.map_some, Option.some.injEq, Prod.mk.injEq] at hlj
      simp [hjm, hjl, hlj.1]
    · simp only [if_neg hij]
      exact hlj
  · intro i e he
    rw [Array.getElem?_modify] at he
    split at he
    · rename_i hij
      subst hij
      rw [Array.getElem?_eq_getElem hjm] at he
      simp only [Option.map_some, Option.some.injEq] at he
      subst he
      exact hborn j m[j] (Array.getElem?_eq_getElem hjm)
    · exact hborn i e he
theorem e_entryStore {t : TypeId} {x k y : Operand} {b : Nat} {l : List (α × β)} (a : α) (u v : β) (ho : o.op = .entryStore t x k y) (hd : o.dst = none)
    (hx : ev L x = some (.map (some b))) (hk : ev L k = some (.int .i64 (mpos a l : Int))) (hy : ev L y = some (vf v)) (h : Pre n L (St w0 D (mapS b kf vf (mput a v l) :: H)) K) : EOp P n L (St w0 D (mapS b kf vf (mput a u l) :: H)) o Q K :=
  EOp.skip _ hd (fun ac w kn hX => by
    obtain ⟨w', hr, h'⟩ := run_entryStore (P := P) (t := t) v (mput_pos a u l) hX
    rw [mput_set'] at h'
    exact ⟨w', by simp [execOp, ho, kn.eval hx, kn.eval hk, kn.eval hy, hr], h'⟩) h
end
end Go.Sep
