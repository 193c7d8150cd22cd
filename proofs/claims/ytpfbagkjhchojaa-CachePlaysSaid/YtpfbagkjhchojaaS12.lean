/- Maps: made, updated, looked up, counted; a block's part cleared; a string copied; strings held against each other. Over any program. -/
import Derived.Test.YtpfbagkjhchojaaS10
import Derived.Test.YtpfbagkjhchojaaS11
import Derived.DeepKeys5
import Derived.WideKeyRuns
set_option linter.unusedVariables false
set_option linter.unusedSimpArgs false
namespace Go.Sep
open Go.RowKit Go.Proofs.Ytpfbagkjhchojaa
/-! ## A map as a list of pairs -/
section plain
variable {α β : Type} [DecidableEq α]
/-- Where a key stands, and what it has. -/
def mfind (a : α) : List (α × β) → Nat → Option (Nat × β)
  | [], _ => none
  | (x, y) :: l, i => if a = x then some (i, y) else mfind a l (i + 1)
def mput (a : α) (v : β) : List (α × β) → List (α × β)
  | [] => [(a, v)]
  | (x, y) :: l => if a = x then (a, v) :: l else (x, y) :: mput a v l
def mget (a : α) : List (α × β) → Option β
  | [] => none
  | (x, y) :: l => if a = x then some y else mget a l
theorem mfind_none {a : α} {v : β} : ∀ {l : List (α × β)} {i : Nat}, mfind a l i = none → mput a v l = l ++ [(a, v)]
  | [], i, h => rfl
  | (x, y) :: l, i, h => by
    simp only [mfind] at h
    split at h
    · cases h
    · rename_i hne
      simp only [mput, if_neg hne]
      rw [mfind_none (v := v) h]; rfl
theorem mfind_get {a : α} : ∀ {l : List (α × β)} {i : Nat}, mget a l = (mfind a l i).map Prod.snd
  | [], i => rfl
  | (x, y) :: l, i => by
    simp only [mfind, mget]
    split
    · rfl
    · exact mfind_get
theorem mfind_some {a : α} {v y : β} : ∀ {l : List (α × β)} {i j : Nat}, mfind a l i = some (j, y) → i ≤ j ∧ l[j - i]? = some (a, y) ∧ mput a v l = l.set (j - i) (a, v)
  | [], i, j, h => by cases h
  | (x, z) :: l, i, j, h => by
    simp only [mfind] at h
    split at h
    · rename_i he
      cases h
      subst he
      simp [mput]
    · rename_i hne
      obtain ⟨h1, h2, h3⟩ := mfind_some (v := v) h
      have e : j - i = (j - (i + 1)) + 1 := by omega
      simp only [mput, if_neg hne]
      rw [e]
      exact ⟨by omega, by simpa using h2, by rw [List.set_cons_succ, h3]⟩
end plain

section
variable {P : Program} {n : Nat} {L : Env} {X : World → Prop} {o : Oper} {Q : Exit → Act → World → Prop} {K : Act → World → Prop}
variable {w0 : World} {D : List Nat} {H : List Ent} {α β : Type} [DecidableEq α] {kf : α → Value} {vf : β → Value}
/-- A map in memory. -/
def mapE (b : Nat) (kf : α → Value) (vf : β → Value) (l : List (α × β)) : Ent := ⟨some b, fun o => ∃ m c, o = some (.map m c) ∧ m.toList.map (fun e => (e.key, e.val)) = l.map (fun p => (kf p.1, vf p.2))⟩
/-- Keys of a type: they can be held against each other. -/
structure KeyOk (P : Program) (kt : TypeId) (kf : α → Value) : Prop where
  ck : ∀ em w a, (Instr.checkKey em 10000 kt (kf a)).run P w = .ok () w
  find : ∀ w a (es : List MapEntry) (β : Type) (vf : β → Value) (l : List (α × β)), es.map (fun e => (e.key, e.val)) = l.map (fun p => (kf p.1, vf p.2)) → (Instr.findKey kt (kf a) es).run P w = .ok ((mfind a l 0).map (fun p => (p.1, vf p.2))) w
  same : ∀ a, Instr.sameBits 10000 (kf a) (kf a) = true
theorem findAsking_eq {kt : TypeId} (heq : ∀ w a x, (Op.equal kt (kf a) (kf x)).run P w = .ok (decide (a = x)) w) (w : World) (a : α) : ∀ (es : List MapEntry) (l : List (α × β)) (i : Nat), es.map (fun e => (e.key, e.val)) = l.map (fun p => (kf p.1, vf p.2)) →
    (Instr.findAsking kt (kf a) es i).run P w = .ok ((mfind a l i).map (fun p => (p.1, vf p.2))) w
  | [], [], i, h => rfl
  | [], _ :: _, i, h => by cases h
  | _ :: _, [], i, h => by cases h
  | e :: es, (x, y) :: l, i, h => by
    simp only [List.map_cons, List.cons.injEq, Prod.mk.injEq] at h
    obtain ⟨⟨h1, h2⟩, h3⟩ := h
    simp only [Instr.findAsking, h1, Sem.run_bind, heq, Result.andThen_ok, mfind]
    by_cases hax : a = x
    · simp [hax, h2]
    · simp only [hax, decide_false, Bool.false_eq_true, if_false]
      exact findAsking_eq heq w a es l (i + 1) h3
/-- Structs and arrays of numbers as keys. -/
theorem keyOk_agg {E : Enc α} {kt : TypeId} {d : Nat} {ks : List Sc} (hf : flat P d kt = some ks) (hk : P.keyTypeAt d kt = true) (hd : d.ble 10000 = true) (hc : P.cellsOf kt = ks.length)
    (ha : (match P.underlying kt with | some (.array _ _) | some (.struct _) => true | _ => false) = true) (hks : ∀ a, Kinds ks (E.f a)) (inj : ∀ a x, E.f a = E.f x → a = x) (hsb : ∀ a, Instr.sameBits 10000 (.agg (E.f a).toArray) (.agg (E.f a).toArray) = true) : KeyOk P kt (fun a => .agg (E.f a).toArray) := by
  have ha' : (match P.underlying kt with | some (.struct _) | some (.array _ _) => true | _ => false) = true := by
    revert ha; cases P.underlying kt with
    | none => simp
    | some d => cases d <;> simp
  have hle : d ≤ 10000 := Nat.le_of_ble_eq_true hd
  refine ⟨fun em w a => ?_, fun w a es β vf l h => ?_, hsb⟩
  · have H := run_checkKey_deep (P := P) em (10000 - d) d kt hk
    rw [show 10000 - d + d = 10000 from by omega] at H
    refine H w d (.agg (E.f a).toArray) _ ?_ (flat_lits d kt ks hf hk _ (hks a))
    have hs : (E.f a).toArray.size = P.cellsOf kt := by rw [hc, ← (hks a).1]; simp
    unfold Value.formed
    split at ha'
    · rename_i hu; simp [hu, hs]
    · rename_i hu; simp [hu, hs]
    · simp at ha'
  · rw [run_findKey_eq w ha]
    refine findAsking_eq (kf := fun a => Value.agg (E.f a).toArray) (vf := vf) (fun w a x => ?_) w a es l 0 h
    exact run_eqAgg hf hk hd hc ha' (hks a) (hks x) ⟨fun e => decide_eq_true (inj a x e), fun e => by rw [of_decide_eq_true e]⟩
theorem sameBits_ints : ∀ (cs : List Value), (∀ v ∈ cs, ∃ k z, v = .int k z) → Instr.sameBits 10000 (.agg cs.toArray) (.agg cs.toArray) = true := fun cs h => by
  show (cs.toArray.size == cs.toArray.size && (cs.toArray.toList.zip cs.toArray.toList).all fun (x, y) => Instr.sameBits 9999 x y) = true
  simp only [beq_self_eq_true, Bool.true_and, List.all_eq_true]
  intro p hp
  obtain ⟨x, y⟩ := p
  have hxy : x = y ∧ x ∈ cs := by
    have : ∀ (l : List Value), (x, y) ∈ l.zip l → x = y ∧ x ∈ l := by
      intro l
      induction l with
      | nil => intro h; cases h
      | cons a l ih =>
        intro h
        rw [List.zip_cons_cons] at h
        rcases List.mem_cons.1 h with h | h
        · cases h; exact ⟨rfl, List.mem_cons_self ..⟩
        · exact ⟨(ih h).1, List.mem_cons_of_mem _ (ih h).2⟩
    exact this _ hp
  obtain ⟨rfl, hm⟩ := hxy
  obtain ⟨k, z, rfl⟩ := h x hm
  show (k == k && z == z) = true
  simp

omit [DecidableEq α] in
theorem map_obj {b : Nat} {l : List (α × β)} {w : World} (h : (mapE b kf vf l).at w) : ∃ m c, w.heap[b]? = some (.map m c) ∧ m.toList.map (fun e => (e.key, e.val)) = l.map (fun p => (kf p.1, vf p.2)) := h
omit [DecidableEq α] in
theorem e_makeMap {t : TypeId} {d : Nat} (kf : α → Value) (vf : β → Value) (ho : o.op = .makeMap t none) (hd : o.dst = some d) (hn : d.blt n = true) (h : ∀ b, Pre n ((d, .map (some b)) :: L) (St w0 D (mapE b kf vf [] :: H)) K) : EOp P n L (St w0 D H) o Q K :=
  EOp.val (β := Nat) (fun b => .map (some b)) (fun _ => True) (fun b => St w0 D (mapE b kf vf [] :: H)) hd hn (fun a w k x =>
    ⟨w.heap.size, w.alloc (.map #[] 0), by simp [execOp, ho, Instr.makeMap, newObj]; rfl, trivial, x.alloc ⟨#[], 0, rfl, rfl⟩⟩) (fun b _ => h b)
omit [DecidableEq α] in
theorem q_lenM {x : Operand} {t kt vt : TypeId} {b : Nat} {l : List (α × β)} (ho : o.op = .call ⟨.builtin .len, #[x], #[t]⟩) (ht : P.underlying t = some (.map kt vt)) (hx : ev L x = some (.map (some b))) (hr : ∀ w, X w → (mapE b kf vf l).at w) : QOp P n L X o (.int .i64 (l.length : Int)) := fun a w hk hX => by
  obtain ⟨m, c, hm, hl⟩ := map_obj (hr w hX)
  have hs : m.size = l.length := by have := congrArg List.length hl; simpa using this
  have hrun : (Builtin.len_ #[t] o.type #[.map (some b)]).run P w = .ok (.int .i64 (l.length : Int)) w := by
    simp [Builtin.len_, run_und ht, getObj, Sem.run, hm, hs, goInt]
  simp [execOp, ho, resolve, invoke, builtin, hk.eval hx, hrun]
theorem run_lookup {t kt vt : TypeId} {b : Nat} {l : List (α × β)} {w : World} (a : α) {z : Value} (ht : P.underlying t = some (.map kt vt)) (hK : KeyOk P kt kf) (hz : ∀ w, (zeroValue vt).run P w = .ok z w) (h : (mapE b kf vf l).at w) (ok : Bool) :
    (Instr.lookup t (.map (some b)) (kf a) ok).run P w = .ok (if ok then .tuple #[match mget a l with | some y => vf y | none => z, .bool (mget a l).isSome] else match mget a l with | some y => vf y | none => z) w := by
  obtain ⟨m, c, hm, hl⟩ := map_obj h
  have hg : (getObj b).run P w = .ok (.map m c) w := by simp [getObj, Sem.run, hm]
  have hf := hK.find w a m.toList β vf l hl
  have hmg := mfind_get (a := a) (l := l) (i := 0)
  unfold Instr.lookup
  cases hfi : mfind a l 0 with
  | none =>
    rw [hfi] at hf hmg
    simp only [Option.map_none] at hf hmg
    simp [run_und ht, hg, hK.ck, hf, hz, hmg]
  | some p =>
    rw [hfi] at hf hmg
    simp only [Option.map_some] at hf hmg
    simp [run_und ht, hg, hK.ck, hf, hmg]
theorem e_lookup {t kt vt : TypeId} {x k : Operand} {b d : Nat} {l : List (α × β)} (a : α) {z : Value} (ho : o.op = .lookup t x k false) (hd : o.dst = some d) (hn : d.blt n = true) (ht : P.underlying t = some (.map kt vt)) (hK : KeyOk P kt kf) (hz : ∀ w, (zeroValue vt).run P w = .ok z w)
    (hx : ev L x = some (.map (some b))) (hk : ev L k = some (kf a)) (hr : ∀ w, X w → (mapE b kf vf l).at w) (h : Pre n ((d, match mget a l with | some y => vf y | none => z) :: L) X K) : EOp P n L X o Q K :=
  EOp.val (β := Unit) (fun _ => match mget a l with | some y => vf y | none => z) (fun _ => True) (fun _ => X) hd hn (fun ac w kn hX =>
    ⟨(), w, by have := run_lookup (P := P) a ht hK hz (hr w hX) false; simp only [Bool.false_eq_true, if_false] at this; simp [execOp, ho, kn.eval hx, kn.eval hk, this], trivial, hX⟩) (fun _ _ => h)
theorem run_put {t kt vt : TypeId} {b : Nat} {l : List (α × β)} {w : World} (a : α) (v : β) (ht : P.underlying t = some (.map kt vt)) (hK : KeyOk P kt kf) (h : St w0 D (mapE b kf vf l :: H) w) :
    ∃ w', (Instr.mapUpdate t (.map (some b)) (kf a) (vf v)).run P w = .ok () w' ∧ St w0 D (mapE b kf vf (mput a v l) :: H) w' := by
  obtain ⟨m, c, hm, hl⟩ := map_obj (h.at 0 rfl)
  have hlt : b < w.heap.size := (Array.getElem?_eq_some_iff.1 hm).1
  have hg : (getObj b).run P w = .ok (.map m c) w := by simp [getObj, Sem.run, hm]
  have hs : ∀ m' c', (setObj b (.map m' c')).run P w = .ok () { w with heap := w.heap.setIfInBounds b (.map m' c') } := fun m' c' => by simp [setObj, Sem.run, hm]
  have hst : ∀ (m' : Array MapEntry) (c' : Nat) (l' : List (α × β)), m'.toList.map (fun e => (e.key, e.val)) = l'.map (fun p => (kf p.1, vf p.2)) → St w0 D (mapE b kf vf l' :: H) { w with heap := w.heap.setIfInBounds b (.map m' c') } := fun m' c' l' hl' =>
    h.write rfl rfl rfl (by simp) (fun k hk => by simp [Array.getElem?_setIfInBounds, Ne.symm hk]) ⟨m', c', by simp [Array.getElem?_setIfInBounds, hlt], hl'⟩
  have hf := hK.find w a m.toList β vf l hl
  unfold Instr.mapUpdate
  cases hfi : mfind a l 0 with
  | none =>
    rw [hfi] at hf
    simp only [Option.map_none] at hf
    refine ⟨_, by simp [run_und ht, hg, hK.ck, hf, hs], hst (m.push { key := kf a, val := vf v, born := c }) (c + 1) (mput a v l) ?_⟩
    rw [mfind_none hfi]
    simp [hl]
  | some p =>
    obtain ⟨i, y⟩ := p
    rw [hfi] at hf
    simp only [Option.map_some] at hf
    obtain ⟨_, h2, h3⟩ := mfind_some (v := v) hfi
    simp only [Nat.sub_zero] at h2 h3
    have hi : i < m.size := by
      have h5 := (List.getElem?_eq_some_iff.1 h2).1
      have := congrArg List.length hl
      simp at this; omega
    have hk : (m[i]?.map (·.key)).getD (kf a) = kf a := by
      have h6 : (m.toList.map (fun e => (e.key, e.val)))[i]? = some (kf a, vf y) := by rw [hl]; simp [h2]
      simp only [List.getElem?_map, Array.getElem?_toList, Option.map_eq_some_iff] at h6
      obtain ⟨e, he, h7⟩ := h6
      rw [he]
      simp only [Option.map_some, Option.getD_some]
      exact congrArg Prod.fst h7
    have hks : (Instr.keyThatStays (kf a) (kf a)).run P w = .ok (kf a) w := by unfold Instr.keyThatStays; rw [if_pos (hK.same a)]; rfl
    refine ⟨_, by simp [run_und ht, hg, hK.ck, hf, hk, hks, hs], hst (m.modify i fun e => { e with key := kf a, val := vf v }) c (mput a v l) ?_⟩
    rw [h3]
    refine List.ext_getElem? (fun j => ?_)
    have hlj : (m.toList.map (fun e => (e.key, e.val)))[j]? = (l.map (fun p => (kf p.1, vf p.2)))[j]? := by rw [hl]
    simp only [List.getElem?_map, Array.getElem?_toList] at hlj
    simp only [List.getElem?_map, Array.getElem?_toList, Array.getElem?_modify, List.getElem?_set]
    by_cases hij : i = j
    · subst hij
      have h5 := (List.getElem?_eq_some_iff.1 h2).1
      simp [hi, h5]
    · simp only [if_neg hij]
      exact hlj
theorem e_put {t kt vt : TypeId} {x k y : Operand} {b : Nat} {l : List (α × β)} (a : α) (v : β) (ho : o.op = .mapUpdate t x k y) (hd : o.dst = none) (ht : P.underlying t = some (.map kt vt)) (hK : KeyOk P kt kf)
    (hx : ev L x = some (.map (some b))) (hk : ev L k = some (kf a)) (hy : ev L y = some (vf v)) (h : Pre n L (St w0 D (mapE b kf vf (mput a v l) :: H)) K) : EOp P n L (St w0 D (mapE b kf vf l :: H)) o Q K :=
  EOp.skip _ hd (fun ac w kn hX => by
    obtain ⟨w', hr, h'⟩ := run_put (P := P) a v ht hK hX
    exact ⟨w', by simp [execOp, ho, kn.eval hx, kn.eval hk, kn.eval hy, hr], h'⟩) h

/-! ## A part of a block, cleared -/
theorem e_clearC {t e : TypeId} {i : TypeInfo} {z : Value} {x : Operand} {b off m c : Nat} {T : TypeId} {cs : List Value} (ho : o.op = .call ⟨.builtin .clear, #[x], #[t]⟩) (hd : o.dst = none) (ht : P.underlying t = some (.slice e)) (hi : P.info? e = some i) (hz : i.zero = some z) (hzc : z.cells = #[z]) (hz1 : z.oneCell' = true)
    (hx : ev L x = some (.slice (some ⟨b, off, none⟩) m c)) (hfit : off + m ≤ cs.length) (h : Pre n L (St w0 D (cellsE b T (splice cs off (List.replicate m z)) :: H)) K) : EOp P n L (St w0 D (cellsE b T cs :: H)) o Q K :=
  EOp.val0 (β := Unit) (fun _ => .tuple #[]) (fun _ => True) (fun _ => St w0 D (cellsE b T (splice cs off (List.replicate m z)) :: H)) hd (fun a w kn hX => by
    have hzv : ∀ w, (zeroValue e).run P w = .ok z w := fun w => by simp [zeroValue, typeInfo, hi, hz]
    have hzl : (Builtin.zeroCells z.cells m).toList = List.replicate m z := by
      rw [hzc]
      refine List.ext_getElem? (fun j => ?_)
      by_cases hj : j < m
      · simp [Builtin.zeroCells, hj, Nat.mod_one]
      · rw [List.getElem?_eq_none (by rw [Array.length_toList, size_zeroCells]; simp; omega), List.getElem?_eq_none (by simp; omega)]
    obtain ⟨w', hr, h'⟩ := run_storeCs (P := P) (off := off) (List.replicate m z) cs 0 hX (by simp; omega) (fun u hu => by rw [(List.mem_replicate.1 hu).2]; exact hz1)
    rw [Nat.add_zero] at h'
    refine ⟨(), w', ?_, trivial, h'⟩
    cases m with
    | zero =>
      have : w' = w := by
        simp [storeCells] at hr; exact hr.symm
      subst this
      simp [execOp, ho, resolve, invoke, builtin, kn.eval hx, Builtin.clear_, run_und ht]
    | succ k =>
      rw [← hzl] at hr
      simp [execOp, ho, resolve, invoke, builtin, kn.eval hx, Builtin.clear_, run_und ht, hzv, hr]) (fun _ _ => h)
/-! ## A string's bytes, copied into a block -/
theorem e_copyS {t tx e : TypeId} {x y : Operand} {s : ByteArray} {b off dn dc : Nat} {T : TypeId} {cs : List Value} {d : Nat} (ho : o.op = .call ⟨.builtin .copy, #[y, x], #[t, tx]⟩) (hd : o.dst = some d) (hnn : d.blt n = true) (ht : P.underlying t = some (.slice e)) (hz : ∀ w, (sizeOf e).run P w = .ok 1 w)
    (hy : ev L y = some (.slice (some ⟨b, off, none⟩) dn dc)) (hxv : ev L x = some (.string s)) (hsn : s.size ≤ dn) (hfit : off + s.size ≤ cs.length)
    (h : Pre n ((d, .int .i64 (s.size : Nat)) :: L) (St w0 D (cellsE b T (splice cs off (s.data.toList.map (fun q => Value.int .u8 (q.toNat : Int)))) :: H)) K) : EOp P n L (St w0 D (cellsE b T cs :: H)) o Q K :=
  EOp.val (β := Unit) (fun _ => .int .i64 (s.size : Nat)) (fun _ => True) (fun _ => St w0 D (cellsE b T (splice cs off (s.data.toList.map (fun q => Value.int .u8 (q.toNat : Int)))) :: H)) hd hnn (fun a w kn hX => by
    have hl : (s.data.toList.map (fun q => Value.int .u8 (q.toNat : Int))).length = s.size := by rw [List.length_map, Array.length_toList]; rfl
    obtain ⟨w', hr, h'⟩ := run_storeCs (P := P) (off := off) (s.data.toList.map (fun q => Value.int .u8 (q.toNat : Int))) cs 0 hX (by rw [hl]; omega) (fun u hu => by obtain ⟨q, _, rfl⟩ := List.mem_map.1 hu; rfl)
    rw [Nat.add_zero] at h'
    have hmin : Nat.min s.size dn = s.size := Nat.min_eq_left hsn
    have hf : (Builtin.firstCells 1 s.size (.string s)).run P w = .ok (s.data.toList.map (fun q => Value.int .u8 (q.toNat : Int))).toArray w := by
      have he : s.extract 0 s.size = s := by
        apply ByteArray.ext
        simp [ByteArray.data_extract]
      simp only [Builtin.firstCells, he]
      show Result.ok _ w = _
      congr 1
      apply Array.toList_inj.1
      simp
    have hlen : (Builtin.lenOf (.string s)).run P w = .ok s.size w := rfl
    refine ⟨(), w', ?_, trivial, h'⟩
    simp [execOp, ho, resolve, invoke, builtin, kn.eval hy, kn.eval hxv, Builtin.copy_, run_und ht, hlen, hz, hmin, hf, hr, goInt]) (fun _ _ => h)
end
end Go.Sep
