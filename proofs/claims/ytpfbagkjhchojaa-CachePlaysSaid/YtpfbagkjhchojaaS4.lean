/- What is known of memory: entries, each about one block; what is kept of the world at the start. Over any program. -/
import Derived.Test.YtpfbagkjhchojaaS3
import Derived.Below
set_option linter.unusedVariables false
set_option linter.unusedSimpArgs false
namespace Go.Sep
open Go.RowKit

/-- What is known of one block (none: of no block). -/
structure Ent where
  b : Option Nat
  φ : Option Obj → Prop
def Ent.at (e : Ent) (w : World) : Prop := e.φ (e.b.bind (w.heap[·]?))
/-- The blocks that a list is about. -/
def dom (H : List Ent) : List Nat := H.filterMap Ent.b
/-- The entries hold, of unlike blocks. -/
structure HP (H : List Ent) (w : World) : Prop where
  holds : ∀ e ∈ H, e.at w
  nodup : (dom H).Nodup
  lt : ∀ b ∈ dom H, b < w.heap.size
/-- The blocks that stood in w0 are as they were but those of D. -/
structure Keep (w0 : World) (D : List Nat) (w : World) : Prop where
  os : w.os = w0.os
  tape : w.tape = w0.tape
  output : w.output = w0.output
  size : w0.heap.size ≤ w.heap.size
  block : ∀ b, b < w0.heap.size → b ∉ D → w.heap[b]? = w0.heap[b]?
/-- The state of a walk: what is known, what is kept. -/
structure St (w0 : World) (D : List Nat) (H : List Ent) (w : World) : Prop where
  hp : HP H w
  dom : ∀ b ∈ dom H, b ∈ D ∨ w0.heap.size ≤ b
  keep : Keep w0 D w

theorem Keep.refl (w : World) (D : List Nat) : Keep w D w := ⟨rfl, rfl, rfl, Nat.le_refl _, fun _ _ _ => rfl⟩
theorem Keep.trans {a b c : World} {D D' : List Nat} (h : Keep a D b) (h' : Keep b D' c) (hs : ∀ k, k ∈ D' → k < a.heap.size → k ∈ D) : Keep a D c :=
  ⟨h'.os.trans h.os, h'.tape.trans h.tape, h'.output.trans h.output, Nat.le_trans h.size h'.size, fun k hk hD => (h'.block k (Nat.lt_of_lt_of_le hk h.size) (fun e => hD (hs k e hk))).trans (h.block k hk hD)⟩
theorem Keep.below {w0 w : World} (h : Keep w0 [] w) : Below w0.heap.size w0 w := ⟨h.os, h.tape, h.output, h.size, fun k hk => h.block k hk (by simp)⟩
theorem St.below {w0 w : World} {H : List Ent} (h : St w0 [] H w) : Below w0.heap.size w0 w := h.keep.below
theorem St.init {H : List Ent} {w : World} (h : HP H w) : St w (Sep.dom H) H w := ⟨h, fun b hb => .inl hb, Keep.refl _ _⟩
theorem HP.nil (w : World) : HP [] w := ⟨fun e h => (by cases h), List.nodup_nil, fun b h => (by cases h)⟩
theorem St.nil (w : World) : St w [] [] w := St.init (HP.nil w)
theorem dom_nil : dom [] = [] := rfl

theorem Ent.at_congr {e : Ent} {w w' : World} (h : ∀ b, e.b = some b → w'.heap[b]? = w.heap[b]?) (he : e.at w) : e.at w' := by
  unfold Ent.at at *
  cases hb : e.b with
  | none => rw [hb] at he; exact he
  | some b => rw [hb] at he; simpa [h b hb] using he

theorem St.drawn {w0 : World} {D : List Nat} {H : List Ent} : Drawn (St w0 D H) := fun w m h =>
  ⟨⟨fun e he => Ent.at_congr (fun _ _ => rfl) (h.hp.holds e he), h.hp.nodup, h.hp.lt⟩, h.dom, ⟨h.keep.os, h.keep.tape, h.keep.output, h.keep.size, h.keep.block⟩⟩
theorem St.drew {w0 : World} {D : List Nat} {H : List Ent} {w : World} (h : St w0 D H w) : St w0 D H w.drew := St.drawn w _ h

theorem St.at {w0 : World} {D : List Nat} {H : List Ent} {w : World} {e : Ent} (h : St w0 D H w) (i : Nat) (hi : H[i]? = some e) : e.at w := h.hp.holds e (List.mem_of_getElem? hi)

/-- Fewer entries. -/
theorem St.sublist {w0 : World} {D : List Nat} {H H' : List Ent} {w : World} (s : H'.Sublist H) (h : St w0 D H w) : St w0 D H' w :=
  ⟨⟨fun e he => h.hp.holds e (s.subset he), h.hp.nodup.sublist (s.filterMap _), fun b hb => h.hp.lt b ((s.filterMap _).subset hb)⟩, fun b hb => h.dom b ((s.filterMap _).subset hb), h.keep⟩
theorem St.perm {w0 : World} {D : List Nat} {H H' : List Ent} {w : World} (s : H.Perm H') (h : St w0 D H w) : St w0 D H' w :=
  ⟨⟨fun e he => h.hp.holds e (s.mem_iff.2 he), (s.filterMap _).nodup_iff.1 h.hp.nodup, fun b hb => h.hp.lt b ((s.filterMap _).mem_iff.2 hb)⟩, fun b hb => h.dom b ((s.filterMap _).mem_iff.2 hb), h.keep⟩
theorem St.drop {w0 : World} {D : List Nat} {e : Ent} {H : List Ent} {w : World} (h : St w0 D (e :: H) w) : St w0 D H w := h.sublist (List.sublist_cons_self _ _)
theorem St.cut {w0 : World} {D : List Nat} {H T : List Ent} {w : World} (h : St w0 D (H ++ T) w) : St w0 D H w := h.sublist (List.sublist_append_left _ _)
theorem St.nothing {w0 : World} {D : List Nat} {H : List Ent} {w : World} (h : St w0 D H w) : St w0 D [] w := h.sublist (List.nil_sublist _)
/-- The head's block says otherwise, or less. -/
theorem St.head {w0 : World} {D : List Nat} {e e' : Ent} {H : List Ent} {w : World} (h : St w0 D (e :: H) w) (hb : e'.b = e.b) (hi : e.at w → e'.at w) : St w0 D (e' :: H) w := by
  have hd : Sep.dom (e' :: H) = Sep.dom (e :: H) := by simp only [Sep.dom, List.filterMap_cons, hb]
  refine ⟨⟨fun x hx => ?_, hd ▸ h.hp.nodup, hd ▸ h.hp.lt⟩, hd ▸ h.dom, h.keep⟩
  rcases List.mem_cons.1 hx with rfl | hx
  · exact hi (h.hp.holds e (List.mem_cons_self ..))
  · exact h.hp.holds x (List.mem_cons_of_mem _ hx)
/-- The head gives its block away (or says nothing of any block). -/
theorem St.free {w0 : World} {D : List Nat} {e e' : Ent} {H : List Ent} {w : World} (h : St w0 D (e :: H) w) (hb : e'.b = Option.none) (hi : e'.at w) : St w0 D (e' :: H) w := by
  have h1 := h.drop
  have hd : Sep.dom (e' :: H) = Sep.dom H := by simp only [Sep.dom, List.filterMap_cons, hb]
  refine ⟨⟨fun x hx => ?_, hd ▸ h1.hp.nodup, hd ▸ h1.hp.lt⟩, hd ▸ h1.dom, h1.keep⟩
  rcases List.mem_cons.1 hx with rfl | hx
  · exact hi
  · exact h1.hp.holds x hx
/-- An entry about no block. -/
theorem St.add {w0 : World} {D : List Nat} {e' : Ent} {H : List Ent} {w : World} (h1 : St w0 D H w) (hb : e'.b = Option.none) (hi : e'.at w) : St w0 D (e' :: H) w := by
  have hd : Sep.dom (e' :: H) = Sep.dom H := by simp only [Sep.dom, List.filterMap_cons, hb]
  refine ⟨⟨fun x hx => ?_, hd ▸ h1.hp.nodup, hd ▸ h1.hp.lt⟩, hd ▸ h1.dom, h1.keep⟩
  rcases List.mem_cons.1 hx with rfl | hx
  · exact hi
  · exact h1.hp.holds x hx

/-- A new block. -/
theorem St.alloc {w0 : World} {D : List Nat} {H : List Ent} {w : World} {o : Obj} {φ : Option Obj → Prop} (h : St w0 D H w) (hφ : φ (some o)) : St w0 D (⟨some w.heap.size, φ⟩ :: H) (w.alloc o) := by
  have hold : ∀ b, b < w.heap.size → (w.alloc o).heap[b]? = w.heap[b]? := fun b hb => Below.heap_alloc w o b hb
  have hnew : (w.alloc o).heap[w.heap.size]? = some o := by show (w.heap.push o)[_]? = _; simp
  have hsz : (w.alloc o).heap.size = w.heap.size + 1 := Array.size_push ..
  refine ⟨⟨fun e he => ?_, ?_, ?_⟩, ?_, ⟨h.keep.os, h.keep.tape, h.keep.output, Nat.le_trans h.keep.size (by rw [hsz]; omega), fun b hb hD => (hold b (Nat.lt_of_lt_of_le hb h.keep.size)).trans (h.keep.block b hb hD)⟩⟩
  · rcases List.mem_cons.1 he with rfl | he
    · show φ ((w.alloc o).heap[w.heap.size]?); rw [hnew]; exact hφ
    · exact Ent.at_congr (fun b hb => hold b (h.hp.lt b (List.mem_filterMap.2 ⟨e, he, hb⟩))) (h.hp.holds e he)
  · show (w.heap.size :: Sep.dom H).Nodup
    exact List.nodup_cons.2 ⟨fun hm => absurd (h.hp.lt _ hm) (Nat.lt_irrefl _), h.hp.nodup⟩
  · intro b hb
    have hb' : b = w.heap.size ∨ b ∈ Sep.dom H := List.mem_cons.1 hb
    show b < (w.heap.push o).size
    rw [Array.size_push]
    rcases hb' with rfl | hb'
    · omega
    · have := h.hp.lt b hb'; omega
  · intro b hb
    have hb' : b = w.heap.size ∨ b ∈ Sep.dom H := List.mem_cons.1 hb
    rcases hb' with rfl | hb'
    · exact .inr h.keep.size
    · exact h.dom b hb'
/-- The head's block is written: the world behind, whatever it is, differs in that block alone. -/
theorem St.write {w0 : World} {D : List Nat} {H : List Ent} {w w' : World} {b : Nat} {φ φ' : Option Obj → Prop} (h : St w0 D (⟨some b, φ⟩ :: H) w) (hos : w'.os = w.os) (ht : w'.tape = w.tape) (ho : w'.output = w.output) (hs : w'.heap.size = w.heap.size)
    (hb : ∀ k, k ≠ b → w'.heap[k]? = w.heap[k]?) (hφ : φ' w'.heap[b]?) : St w0 D (⟨some b, φ'⟩ :: H) w' := by
  have hnd : b ∉ Sep.dom H ∧ (Sep.dom H).Nodup := List.nodup_cons.1 h.hp.nodup
  refine ⟨⟨fun e he => ?_, h.hp.nodup, fun k hk => hs ▸ h.hp.lt k hk⟩, h.dom, ⟨hos.trans h.keep.os, ht.trans h.keep.tape, ho.trans h.keep.output, hs ▸ h.keep.size, fun k hk hD => ?_⟩⟩
  · rcases List.mem_cons.1 he with rfl | he'
    · exact hφ
    · refine Ent.at_congr (fun k hk => hb k ?_) (h.hp.holds e (List.mem_cons_of_mem _ he'))
      rintro rfl
      exact hnd.1 (List.mem_filterMap.2 ⟨e, he', hk⟩)
  · refine (hb k ?_).trans (h.keep.block k hk hD)
    rintro rfl
    rcases h.dom k (List.mem_cons_self ..) with hd | hd
    · exact hD hd
    · omega

/-- A function's contract: from entries H and a condition on the world at the start, a value, facts, and new entries; nothing else that stood there turns. -/
def Con (P : Program) (f : FuncId) (vs : List Value) (E : World → Prop) (H : List Ent) {β : Type} (v : β → Value) (p : β → Prop) (H' : β → List Ent) : Prop :=
  ∀ w, E w → HP H w → Calls P f vs.toArray w (fun e w' => ∃ b, e = .returned (v b) ∧ p b ∧ St w (dom H) (H' b) w')
/-- It holds beside whatever else is known. -/
theorem Con.frame {P : Program} {f : FuncId} {vs : List Value} {E : World → Prop} {H : List Ent} {β : Type} {v : β → Value} {p : β → Prop} {H' : β → List Ent} (s : Con P f vs E H v p H') {w0 : World} {D : List Nat} {F : List Ent} {w : World}
    (h : St w0 D (H ++ F) w) (hE : E w) : Calls P f vs.toArray w (fun e w' => ∃ b, e = .returned (v b) ∧ p b ∧ St w0 D (H' b ++ F) w') := by
  refine (s w hE h.cut.hp).mono ?_
  rintro e w' ⟨b, he, hp, h'⟩
  refine ⟨b, he, hp, ?_⟩
  have hdom : ∀ A B : List Ent, Sep.dom (A ++ B) = Sep.dom A ++ Sep.dom B := fun A B => List.filterMap_append
  have hnd := h.hp.nodup
  rw [hdom, List.nodup_append] at hnd
  obtain ⟨n1, n2, n3⟩ := hnd
  have hF : ∀ k ∈ Sep.dom F, k < w.heap.size ∧ k ∉ Sep.dom H := fun k hk => ⟨h.hp.lt k (by rw [hdom]; exact List.mem_append_right _ hk), fun hk' => n3 _ hk' _ hk rfl⟩
  refine ⟨⟨fun x hx => ?_, ?_, fun k hk => ?_⟩, fun k hk => ?_, h.keep.trans h'.keep (fun k hk hlt => ?_)⟩
  · rcases List.mem_append.1 hx with hx | hx
    · exact h'.hp.holds x hx
    · refine Ent.at_congr (fun k hk => ?_) (h.hp.holds x (List.mem_append_right _ hx))
      have := hF k (List.mem_filterMap.2 ⟨x, hx, hk⟩)
      exact h'.keep.block k this.1 this.2
  · rw [hdom, List.nodup_append]
    refine ⟨h'.hp.nodup, n2, fun k hk j hj e => ?_⟩
    subst e
    have := hF k hj
    rcases h'.dom k hk with hd | hd
    · exact this.2 hd
    · omega
  · rw [hdom] at hk
    rcases List.mem_append.1 hk with hk | hk
    · exact h'.hp.lt k hk
    · exact Nat.lt_of_lt_of_le (hF k hk).1 h'.keep.size
  · rw [hdom] at hk
    rcases List.mem_append.1 hk with hk | hk
    · rcases h'.dom k hk with hd | hd
      · exact h.dom k (by rw [hdom]; exact List.mem_append_left _ hd)
      · exact .inr (Nat.le_trans h.keep.size hd)
    · exact h.dom k (by rw [hdom]; exact List.mem_append_right _ hk)
  · rcases h.dom k (by rw [hdom]; exact List.mem_append_left _ hk) with hd | hd
    · exact hd
    · omega

/-! ## Cells known one by one -/
/-- A block that is known whole. -/
def cellsE (b : Nat) (t : TypeId) (cs : List Value) : Ent := ⟨some b, fun o => o = some (.cells cs.toArray t (0, 0))⟩
theorem cellsE_cell {b : Nat} {t : TypeId} {cs : List Value} {w : World} (h : (cellsE b t cs).at w) {off : Nat} {v : Value} (hv : cs[off]? = some v) : w.cell? ⟨b, off, none⟩ = some v := by
  have h' : w.heap[b]? = some (.cells cs.toArray t (0, 0)) := h
  unfold World.cell?
  simp only [h']
  simpa using hv
theorem cellsE_free {b : Nat} {t : TypeId} {cs : List Value} {w : World} (h : (cellsE b t cs).at w) (off : Nat) : w.frozen? ⟨b, off, none⟩ = false := by
  have h' : w.heap[b]? = some (.cells cs.toArray t (0, 0)) := h
  unfold World.frozen?
  simp only [h']
  simp

/-! ## Kinds of elements -/
/-- How a datum lies in cells. -/
structure Enc (α : Type) where
  sz : Nat
  f : α → List Value
  len : ∀ a, (f a).length = sz
  one : ∀ a u, u ∈ f a → u.oneCell' = true
  pos : 0 < sz
def encI (k : IntKind) : Enc Int := ⟨1, fun z => [.int k z], fun _ => rfl, fun a u h => by simp at h; subst h; rfl, by decide⟩
def encB : Enc Bool := ⟨1, fun z => [.bool z], fun _ => rfl, fun a u h => by simp at h; subst h; rfl, by decide⟩
def encS : Enc ByteArray := ⟨1, fun z => [.string z], fun _ => rfl, fun a u h => by simp at h; subst h; rfl, by decide⟩

section flat
variable {α : Type} (E : Enc α)
def Enc.flat (l : List α) : List Value := l.flatMap E.f
theorem Enc.flat_nil : E.flat [] = [] := rfl
theorem Enc.flat_cons (a : α) (l : List α) : E.flat (a :: l) = E.f a ++ E.flat l := rfl
theorem Enc.flat_append (l m : List α) : E.flat (l ++ m) = E.flat l ++ E.flat m := List.flatMap_append
theorem Enc.flat_len : ∀ l : List α, (E.flat l).length = l.length * E.sz
  | [] => by simp [Enc.flat_nil]
  | a :: l => by rw [E.flat_cons, List.length_append, E.len, Enc.flat_len l, List.length_cons, Nat.add_mul]; omega
theorem Enc.flat_one (l : List α) (u : Value) (h : u ∈ E.flat l) : u.oneCell' = true := by
  obtain ⟨a, _, hu⟩ := List.mem_flatMap.1 h
  exact E.one a u hu
theorem Enc.flat_get : ∀ (l : List α) (j k : Nat) (a : α) (u : Value), l[j]? = some a → (E.f a)[k]? = some u → (E.flat l)[j * E.sz + k]? = some u
  | [], j, k, a, u, h, hk => by simp at h
  | c :: l, 0, k, a, u, h, hk => by
    simp at h; subst h
    rw [E.flat_cons, Nat.zero_mul, Nat.zero_add, List.getElem?_append_left (by have := (List.getElem?_eq_some_iff.1 hk).1; exact this)]
    exact hk
  | c :: l, j + 1, k, a, u, h, hk => by
    have h' : l[j]? = some a := by simpa using h
    rw [E.flat_cons, List.getElem?_append_right (by rw [E.len, Nat.add_mul]; omega), E.len]
    rw [show (j + 1) * E.sz + k - E.sz = j * E.sz + k from by rw [Nat.add_mul]; omega]
    exact Enc.flat_get l j k a u h' hk
theorem Enc.flat_take : ∀ (l : List α) (j : Nat), (E.flat l).take (j * E.sz) = E.flat (l.take j)
  | [], j => by simp [Enc.flat_nil]
  | c :: l, 0 => by simp [Enc.flat_nil]
  | c :: l, j + 1 => by
    rw [E.flat_cons, List.take_succ_cons, E.flat_cons, Nat.add_mul, Nat.one_mul, Nat.add_comm, ← E.len c, List.take_length_add_append, E.len, Enc.flat_take l j]
theorem Enc.flat_drop : ∀ (l : List α) (j : Nat), (E.flat l).drop (j * E.sz) = E.flat (l.drop j)
  | [], j => by simp [Enc.flat_nil]
  | c :: l, 0 => by simp
  | c :: l, j + 1 => by
    rw [E.flat_cons, List.drop_succ_cons, Nat.add_mul, Nat.one_mul, Nat.add_comm, ← E.len c, List.drop_length_add_append, E.len, Enc.flat_drop l j]
theorem set_mid {β : Type} (p q : List β) (x : β) (k : Nat) (h : k < q.length) : (p ++ q).set (p.length + k) x = p ++ q.set k x := by
  rw [List.set_append_right _ _ (by omega)]
  congr 2
  omega
theorem Enc.flat_set : ∀ (l : List α) (j k : Nat) (a : α) (c : α) (u : Value), l[j]? = some a → k < E.sz → (E.f a).set k u = E.f c → (E.flat l).set (j * E.sz + k) u = E.flat (l.set j c)
  | [], j, k, a, c, u, h, hk, hs => by simp at h
  | d :: l, 0, k, a, c, u, h, hk, hs => by
    simp at h; subst h
    rw [E.flat_cons, List.set_cons_zero, E.flat_cons, Nat.zero_mul, Nat.zero_add, List.set_append_left _ _ (by rw [E.len]; exact hk), hs]
  | d :: l, j + 1, k, a, c, u, h, hk, hs => by
    have h' : l[j]? = some a := by simpa using h
    rw [E.flat_cons, List.set_cons_succ, E.flat_cons, List.set_append_right _ _ (by rw [E.len, Nat.add_mul]; omega), E.len,
      show (j + 1) * E.sz + k - E.sz = j * E.sz + k from by rw [Nat.add_mul]; omega, Enc.flat_set l j k a c u h' hk hs]
end flat

/-! ## Slices that can be read -/
def blk : Value → Nat
  | .slice (some a) _ _ => a.block
  | _ => 0
def offs : Value → Nat
  | .slice (some a) _ _ => a.off
  | _ => 0
def vlen : Value → Nat
  | .slice _ n _ => n
  | _ => 0
def vcap : Value → Nat
  | .slice _ _ c => c
  | _ => 0
/-- What a slice holds. -/
def RdV {α : Type} (w : World) (v : Value) (E : Enc α) (l : List α) : Prop :=
  ∃ a c, v = .slice a l.length c ∧ l.length ≤ c ∧ (l = [] ∨ ∃ b off, a = some ⟨b, off, none⟩ ∧ ∀ k u, (E.flat l)[k]? = some u → w.cell? ⟨b, off + k, none⟩ = some u)
theorem RdV.congr {α : Type} {w w' : World} {v : Value} {E : Enc α} {l : List α} (h : RdV w v E l) (hk : l ≠ [] → w'.heap[blk v]? = w.heap[blk v]?) : RdV w' v E l := by
  obtain ⟨a, c, rfl, hc, h⟩ := h
  refine ⟨a, c, rfl, hc, ?_⟩
  rcases h with rfl | ⟨b, off, rfl, h⟩
  · exact .inl rfl
  · by_cases hl : l = []
    · exact .inl hl
    · exact .inr ⟨b, off, rfl, fun k u hu => by
        rw [← h k u hu]
        exact World.cell?_of_block (w := w) (hk hl)⟩
theorem RdV.lt {α : Type} {w : World} {v : Value} {E : Enc α} {l : List α} (h : RdV w v E l) (hl : l ≠ []) : blk v < w.heap.size := by
  obtain ⟨a, c, rfl, hc, h⟩ := h
  rcases h with h | ⟨b, off, rfl, h⟩
  · exact absurd h hl
  · cases l with
    | nil => exact absurd rfl hl
    | cons x l =>
      have hp := E.pos
      have : 0 < (E.flat (x :: l)).length := by rw [E.flat_len]; simp; exact hp
      have h0 := h 0 _ (List.getElem?_eq_getElem this)
      unfold World.cell? at h0
      show b < _
      rcases Nat.lt_or_ge b w.heap.size with hb | hb
      · exact hb
      · simp [Array.getElem?_eq_none hb] at h0
theorem RdV.keep {α : Type} {w0 w : World} {D : List Nat} {H : List Ent} {v : Value} {E : Enc α} {l : List α} (h : RdV w0 v E l) (s : St w0 D H w) (hD : blk v ∉ D) : RdV w v E l :=
  h.congr (fun hl => s.keep.block _ (h.lt hl) hD)
theorem RdV.vlen {α : Type} {w : World} {v : Value} {E : Enc α} {l : List α} (h : RdV w v E l) : Sep.vlen v = l.length := by
  obtain ⟨a, c, rfl, hc, h⟩ := h; rfl
theorem RdV.cap {α : Type} {w : World} {v : Value} {E : Enc α} {l : List α} (h : RdV w v E l) : l.length ≤ Sep.vcap v := by
  obtain ⟨a, c, rfl, hc, h⟩ := h; exact hc

/-! ## Slices that are owned -/
/-- The block that a slice owns. -/
def ownB : Value → Option Nat
  | .slice (some a) _ c => if c = 0 then none else some a.block
  | _ => none
/-- What an owned slice's block holds: l, with room behind. -/
def Row {α : Type} (v : Value) (t : TypeId) (E : Enc α) (l : List α) (o : Option Obj) : Prop :=
  (∃ a, v = .slice a 0 0 ∧ l = []) ∨
  ∃ b cap pre post, v = .slice (some ⟨b, pre.length, none⟩) l.length cap ∧ 0 < cap ∧ o = some (.cells (pre ++ E.flat l ++ post).toArray t (0, 0)) ∧ l.length ≤ cap ∧ post.length = (cap - l.length) * E.sz
def rowE {α : Type} (v : Value) (t : TypeId) (E : Enc α) (l : List α) : Ent := ⟨ownB v, Row v t E l⟩
theorem rowE_rd {α : Type} {v : Value} {t : TypeId} {E : Enc α} {l : List α} {w : World} (h : (rowE v t E l).at w) : RdV w v E l := by
  rcases h with ⟨a, rfl, rfl⟩ | ⟨b, cap, pre, post, rfl, hc, ho, hl, hp⟩
  · exact ⟨a, 0, rfl, Nat.le_refl _, .inl rfl⟩
  · refine ⟨_, cap, rfl, hl, .inr ⟨b, pre.length, rfl, fun k u hu => ?_⟩⟩
    have ho' : w.heap[b]? = some (.cells (pre ++ E.flat l ++ post).toArray t (0, 0)) := by
      have : ownB (.slice (some ⟨b, pre.length, none⟩) l.length cap) = some b := by simp [ownB]; omega
      simpa [rowE, this] using ho
    unfold World.cell?
    simp only [ho']
    have hk := (List.getElem?_eq_some_iff.1 hu).1
    simp only [Option.isSome_none, Bool.false_eq_true, if_false]
    rw [List.getElem?_toArray, List.append_assoc, List.getElem?_append_right (by omega), List.getElem?_append_left (by omega)]
    rw [show pre.length + k - pre.length = k from by omega]
    exact hu
theorem St.rd {w0 : World} {D : List Nat} {H : List Ent} {w : World} {α : Type} {v : Value} {t : TypeId} {E : Enc α} {l : List α} (h : St w0 D H w) (i : Nat) (hi : H[i]? = some (rowE v t E l)) : RdV w v E l := rowE_rd (h.at i hi)
theorem cellsE_rd {α : Type} {b : Nat} {t : TypeId} {cs : List Value} {w : World} (h : (cellsE b t cs).at w) (E : Enc α) (l : List α) (off cap : Nat) (pre post : List Value) (hcs : cs = pre ++ E.flat l ++ post) (hoff : off = pre.length) (hc : l.length ≤ cap) : RdV w (.slice (some ⟨b, off, none⟩) l.length cap) E l := by
  subst hcs; subst hoff
  refine ⟨_, cap, rfl, hc, .inr ⟨b, pre.length, rfl, fun k u hu => cellsE_cell h ?_⟩⟩
  have hk := (List.getElem?_eq_some_iff.1 hu).1
  rw [List.append_assoc, List.getElem?_append_right (by omega), List.getElem?_append_left (by omega), show pre.length + k - pre.length = k from by omega]
  exact hu
/-- A literal's row. -/
theorem lit_rd {α : Type} {b : Nat} {t : TypeId} {cs : List Value} {w : World} {n : Nat} (h : (cellsE b t cs).at w) (E : Enc α) (l : List α) (hcs : cs = E.flat l) (hn : l.length = n) : RdV w (.slice (some ⟨b, 0, none⟩) n n) E l := by
  subst hn
  exact cellsE_rd h E l 0 l.length [] [] (by simpa using hcs) rfl (Nat.le_refl _)
end Go.Sep
