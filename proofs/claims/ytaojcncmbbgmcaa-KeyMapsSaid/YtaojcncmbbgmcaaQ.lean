/- keys: counts in maps -/
import Derived.Test.YtaojcncmbbgmcaaY
import Derived.Test.YtaojcncmbbgmcaaS13
set_option linter.unusedVariables false
set_option linter.unusedSimpArgs false
namespace Go.Proofs.Ytaojcncmbbgmcaa
open Go.Sep Go.RowKit

/-! ## Counts -/
abbrev vI : Int → Value := .int .i64
section
variable {α β : Type} [DecidableEq α] [DecidableEq β]
def bump (M : List (α × Int)) (a : α) : List (α × Int) := mput a (IntKind.i64.wrap ((mget a M).getD 0 + 1)) M
def cntM (l : List α) : List (α × Int) := l.foldl bump []
theorem cnt_snoc (l : List α) (a : α) : cntM (l ++ [a]) = bump (cntM l) a := by simp [cntM]
theorem mget_map {f : α → β} {a : α} : ∀ {M : List (α × Int)}, (∀ p ∈ M, f a = f p.1 → a = p.1) → mget (f a) (M.map (fun p => (f p.1, p.2))) = mget a M
  | [], _ => rfl
  | (x, y) :: M, h => by
    simp only [List.map_cons, mget]
    by_cases e : a = x
    · subst e; simp
    · rw [if_neg e, if_neg (fun e' => e (h (x, y) (List.mem_cons_self ..) e')), mget_map (fun p hp => h p (List.mem_cons_of_mem _ hp))]
theorem mput_map {f : α → β} {a : α} {v : Int} : ∀ {M : List (α × Int)}, (∀ p ∈ M, f a = f p.1 → a = p.1) → mput (f a) v (M.map (fun p => (f p.1, p.2))) = (mput a v M).map (fun p => (f p.1, p.2))
  | [], _ => rfl
  | (x, y) :: M, h => by
    simp only [List.map_cons, mput]
    by_cases e : a = x
    · subst e; simp
    · rw [if_neg e, if_neg (fun e' => e (h (x, y) (List.mem_cons_self ..) e')), mput_map (fun p hp => h p (List.mem_cons_of_mem _ hp))]; rfl
theorem bump_map {f : α → β} {a : α} {M : List (α × Int)} (h : ∀ p ∈ M, f a = f p.1 → a = p.1) : bump (M.map (fun p => (f p.1, p.2))) (f a) = (bump M a).map (fun p => (f p.1, p.2)) := by
  unfold bump; rw [mget_map h, mput_map h]
omit [DecidableEq β] in
theorem mput_keys {a : α} {v : Int} {p : α × Int} : ∀ {M : List (α × Int)}, p ∈ mput a v M → p.1 = a ∨ ∃ q ∈ M, q.1 = p.1
  | [], h => by simp [mput] at h; exact .inl (by rw [h])
  | (x, y) :: M, h => by
    simp only [mput] at h
    split at h
    · rcases List.mem_cons.1 h with h | h
      · exact .inl (by rw [h])
      · exact .inr ⟨p, List.mem_cons_of_mem _ h, rfl⟩
    · rcases List.mem_cons.1 h with h | h
      · exact .inr ⟨(x, y), List.mem_cons_self .., by rw [h]⟩
      · rcases mput_keys h with h | ⟨q, hq, h⟩
        · exact .inl h
        · exact .inr ⟨q, List.mem_cons_of_mem _ hq, h⟩
theorem cnt_from {f : α → β} : ∀ (l : List α) (M : List (α × Int)), (∀ x ∈ l, ∀ y ∈ l, f x = f y → x = y) → (∀ x ∈ l, ∀ p ∈ M, f x = f p.1 → x = p.1) → (l.map f).foldl bump (M.map (fun p => (f p.1, p.2))) = (l.foldl bump M).map (fun p => (f p.1, p.2))
  | [], M, _, _ => rfl
  | a :: l, M, h1, h2 => by
    rw [List.map_cons, List.foldl_cons, List.foldl_cons, bump_map (fun p hp => h2 a (List.mem_cons_self ..) p hp)]
    refine cnt_from l (bump M a) (fun x hx y hy => h1 x (List.mem_cons_of_mem _ hx) y (List.mem_cons_of_mem _ hy)) (fun x hx p hp e => ?_)
    rcases mput_keys hp with h | ⟨q, hq, h⟩
    · rw [h] at e ⊢; exact h1 x (List.mem_cons_of_mem _ hx) a (List.mem_cons_self ..) e
    · rw [← h] at e ⊢; exact h2 x (List.mem_cons_of_mem _ hx) q hq e
theorem cnt_map {f : α → β} {l : List α} (h : ∀ x ∈ l, ∀ y ∈ l, f x = f y → x = y) : cntM (l.map f) = (cntM l).map (fun p => (f p.1, p.2)) := cnt_from l [] h (fun x _ p hp => absurd hp List.not_mem_nil)
omit [DecidableEq β] in
theorem cnt_keys {p : α × Int} : ∀ {l : List α} {M : List (α × Int)}, p ∈ l.foldl bump M → p.1 ∈ l ∨ ∃ q ∈ M, q.1 = p.1
  | [], M, h => .inr ⟨p, h, rfl⟩
  | a :: l, M, h => by
    rw [List.foldl_cons] at h
    rcases cnt_keys h with h | ⟨q, hq, h⟩
    · exact .inl (List.mem_cons_of_mem _ h)
    · rcases mput_keys hq with e | ⟨r, hr, e⟩
      · exact .inl (by rw [← h, e]; exact List.mem_cons_self ..)
      · exact .inr ⟨r, hr, by rw [e, h]⟩
end
theorem mput_fst (a : Kv 8) (v : Int) : ∀ M : List (Kv 8 × Int), (mput a v M).map Prod.fst = add1 (M.map Prod.fst) a
  | [] => rfl
  | (x, y) :: M => by
    have ih := mput_fst a v M
    simp only [mput]
    unfold add1 at ih ⊢
    by_cases h : a = x
    · subst h; simp
    · simp only [if_neg h, List.map_cons, ih]
      by_cases hm : a ∈ M.map Prod.fst
      · simp only [hm, if_true, List.mem_cons, or_true]
      · simp only [hm, if_false, List.mem_cons, h, or_self, List.cons_append]
theorem cnt_dd (l : List (Kv 8)) : (cntM l).length = (dd l).length := by
  have : ∀ (l : List (Kv 8)) (M : List (Kv 8 × Int)), (l.foldl bump M).map Prod.fst = l.foldl add1 (M.map Prod.fst) := by
    intro l
    induction l with
    | nil => intro M; rfl
    | cons a l ih => intro M; rw [List.foldl_cons, List.foldl_cons, ih]; congr 1; exact mput_fst a _ M
  have h := congrArg List.length (this l [])
  rw [List.length_map] at h; exact h
theorem keyS_inj {s t : ByteArray} (hs : s.size ≤ 8) (ht : t.size ≤ 8) (h : (ofM s).1 = (ofM t).1) : s = t := by
  unfold ofM at h
  rw [dif_pos hs, dif_pos ht] at h
  have h2 := congrArg tx h
  rw [tx_kof, tx_kof] at h2
  rw [← str_byt s, ← str_byt t, h2]
theorem ofM_zero {s : ByteArray} (h : s.size ≤ 8) : (ofM s).2 = 0 := by unfold ofM; rw [dif_pos h]
/-- The keys of texts. -/
def kl (l : List ByteArray) : List (Kv 8) := l.map (fun s => (ofM s).1)
theorem kl_snoc {l : List ByteArray} {i : Nat} {s : ByteArray} (h : l[i]? = some s) : kl (l.take (i + 1)) = kl (l.take i) ++ [(ofM s).1] := by
  unfold kl; rw [List.take_add_one, h, List.map_append]; rfl
theorem kl_len (l : List ByteArray) : (kl l).length = l.length := List.length_map ..
theorem kl_get {l : List ByteArray} {i j : Nat} {s : ByteArray} (h : l[j]? = some s) (hj : j < i) : (kl (l.take i))[j]? = some (ofM s).1 := by
  unfold kl; rw [List.getElem?_map, List.getElem?_take_of_lt hj, h]; rfl
theorem kl_all {l : List ByteArray} {j : Nat} {s : ByteArray} (h : l[j]? = some s) : (kl l)[j]? = some (ofM s).1 := by
  unfold kl; rw [List.getElem?_map, h]; rfl
/-- Neighbours. -/
def adj (l : List ByteArray) : Nat → List (ByteArray × ByteArray)
  | 0 => []
  | 1 => []
  | i + 2 => adj l (i + 1) ++ [(l.getD i .empty, l.getD (i + 1) .empty)]
theorem adj_succ {l : List ByteArray} {i : Nat} {x y : ByteArray} (hx : l[i]? = some x) (hy : l[i + 1]? = some y) : adj l (i + 2) = adj l (i + 1) ++ [(x, y)] := by
  simp only [adj, List.getD_eq_getElem?_getD, hx, hy]; rfl
theorem adj_mem {l : List ByteArray} {p : ByteArray × ByteArray} : ∀ {i : Nat}, i ≤ l.length → p ∈ adj l i → p.1 ∈ l ∧ p.2 ∈ l
  | 0, _, h => by cases h
  | 1, _, h => by cases h
  | i + 2, hi, h => by
    simp only [adj] at h
    rcases List.mem_append.1 h with h | h
    · exact adj_mem (by omega) h
    · rw [List.mem_singleton] at h
      subst h
      have hg : ∀ k, k < l.length → l.getD k .empty ∈ l := fun k hk => by
        rw [List.getD_eq_getElem?_getD, List.getElem?_eq_getElem hk]; exact List.getElem_mem _
      exact ⟨hg i (by omega), hg (i + 1) (by omega)⟩
def fB (p : ByteArray × ByteArray) : ByteArray := strOfNums [(p.1.size : Int)] ++ p.1 ++ p.2
def fP (p : ByteArray × ByteArray) : Kv 8 × Kv 8 := ((ofM p.1).1, (ofM p.2).1)
theorem fB_inj {p q : ByteArray × ByteArray} (hp : p.1.size ≤ 8) (hq : q.1.size ≤ 8) (h : fB p = fB q) : p = q := by
  obtain ⟨a, b⟩ := p
  obtain ⟨c, d⟩ := q
  have h1 := congrArg (fun s : ByteArray => s.data.toList) h
  simp only [fB, ByteArray.data_append, Array.toList_append, strOfNums, List.map_cons, List.map_nil, List.append_assoc, List.cons_append, List.nil_append, List.cons.injEq, Int.toNat_natCast] at h1
  obtain ⟨h2, h3⟩ := h1
  have hsz : a.size = c.size := by
    have := congrArg UInt8.toNat h2
    simp only at hp hq
    simp at this
    omega
  have hl : a.data.toList.length = c.data.toList.length := by rw [Array.length_toList, Array.length_toList]; exact hsz
  obtain ⟨h4, h5⟩ := List.append_inj h3 hl
  have e1 : a = c := ByteArray.ext (Array.toList_inj.1 h4)
  have e2 : b = d := ByteArray.ext (Array.toList_inj.1 h5)
  rw [e1, e2]
theorem fP_inj {p q : ByteArray × ByteArray} (hp : p.1.size ≤ 8 ∧ p.2.size ≤ 8) (hq : q.1.size ≤ 8 ∧ q.2.size ≤ 8) (h : fP p = fP q) : p = q := by
  have h' : ((ofM p.1).1, (ofM p.2).1) = ((ofM q.1).1, (ofM q.2).1) := h
  have h1 := keyS_inj hp.1 hq.1 (Prod.mk.inj h').1
  have h2 := keyS_inj hp.2 hq.2 (Prod.mk.inj h').2
  exact Prod.ext h1 h2
/-- Two keys as a map's key. -/
def encP : Enc (Kv 8 × Kv 8) := { sz := 18, f := fun p => p.1.c ++ p.2.c, len := fun p => by rw [List.length_append, Kv.c_len, Kv.c_len], pos := by decide, one := fun p u h => (List.mem_append.1 h).elim (Kv.one _ _) (Kv.one _ _) }
abbrev kfP (p : Kv 8 × Kv 8) : Value := .agg (encP.f p).toArray
theorem kinds_app {ks ls : List Sc} {cs ds : List Value} (h1 : Kinds ks cs) (h2 : Kinds ls ds) : Kinds (ks ++ ls) (cs ++ ds) := by
  refine ⟨by rw [List.length_append, List.length_append, h1.1, h2.1], fun i k v hk hv => ?_⟩
  by_cases hi : i < ks.length
  · rw [List.getElem?_append_left hi] at hk
    rw [List.getElem?_append_left (by rw [h1.1]; exact hi)] at hv
    exact h1.2 i k v hk hv
  · rw [List.getElem?_append_right (by omega)] at hk
    rw [List.getElem?_append_right (by rw [h1.1]; omega), h1.1] at hv
    exact h2.2 _ k v hk hv
theorem keyP : KeyOk Try.prog 50 kfP :=
  keyOk_agg (E := encP) (d := 4) (ks := Kv.ks 8 ++ Kv.ks 8) (by kernel_rfl) (by kernel_rfl) (by decide) (by kernel_rfl) (by kernel_rfl) (fun p => kinds_app (Kv.kinds p.1) (Kv.kinds p.2))
    (fun a x h => by
      obtain ⟨h1, h2⟩ := List.append_inj (show a.1.c ++ a.2.c = x.1.c ++ x.2.c from h) (by rw [Kv.c_len, Kv.c_len])
      exact Prod.ext (Kv.c_inj.1 h1) (Kv.c_inj.1 h2))
    (fun p => sameBits_ints _ (fun v hv => by
      have hk : ∀ (k : Kv 8) (v : Value), v ∈ Kv.c k → ∃ j z, v = .int j z := fun k v hv => by
        rcases List.mem_cons.1 (show v ∈ Kv.c k from hv) with rfl | h
        · exact ⟨_, _, rfl⟩
        · obtain ⟨z, _, rfl⟩ := List.mem_map.1 h; exact ⟨_, _, rfl⟩
      rcases List.mem_append.1 (show v ∈ p.1.c ++ p.2.c from hv) with h | h
      · exact hk _ _ h
      · exact hk _ _ h))
theorem kv8_list (k : Kv 8) : ∃ a b c d e f g h : Int, k.b = [a, b, c, d, e, f, g, h] := by
  obtain ⟨n, b, len, _, _⟩ := k
  match b, len with
  | [a, b, c, d, e, f, g, h], _ => exact ⟨a, b, c, d, e, f, g, h, rfl⟩
theorem buildP (x y : Kv 8) (w : World) : (Instr.build 50 #[(0, .agg x.c.toArray), (1, .agg y.c.toArray)]).run Try.prog w = .ok (.agg (encP.f (x, y)).toArray) w := by
  obtain ⟨a, b, c, d, e, f, g, h, hb⟩ := kv8_list x
  obtain ⟨a', b', c', d', e', f', g', h', hb'⟩ := kv8_list y
  show _ = Result.ok (Value.agg (Kv.c x ++ Kv.c y).toArray) w
  unfold Kv.c
  rw [hb, hb']
  kernel_rfl
section
variable {P : Program} {n : Nat} {L : Env} {X : World → Prop} {o : Oper} {Q : Exit → Act → World → Prop} {K : Act → World → Prop}
theorem q_addS {t u : TypeId} {x y : Operand} {p q : ByteArray} (ho : o.op = .binOp .add t x y u) (hx : ev L x = some (.string p)) (hy : ev L y = some (.string q)) (hb : p.size + q.size ≤ 9223372036854775807) : QOp P n L X o (.string (p ++ q)) :=
  q_bin ho hx hy (fun w _ => by
    have h : (binOp .add t (.string p) (.string q)).run P w = .ok (.string (p ++ q)) w := by
      have hb' : ¬ ((p.size + q.size : Nat) : Int) > IntKind.i64.max := by
        show ¬ ((p.size + q.size : Nat) : Int) > 9223372036854775807
        omega
      show (Op.stringOp .add p q).run P w = _
      unfold Op.stringOp
      simp only [if_neg hb']; rfl
    exact run_both rfl h)
theorem e_q {v : Value} {d : Nat} (hd : o.dst = some d) (hn : d.blt n = true) (hq : QOp P n L X o v) (h : Pre n ((d, v) :: L) X K) : EOp P n L X o Q K :=
  EOp.val (β := Unit) (fun _ => v) (fun _ => True) (fun _ => X) hd hn (fun a w k x => ⟨(), w, hq a w k x, trivial, x⟩) (fun _ _ => h)
end

end Go.Proofs.Ytaojcncmbbgmcaa
