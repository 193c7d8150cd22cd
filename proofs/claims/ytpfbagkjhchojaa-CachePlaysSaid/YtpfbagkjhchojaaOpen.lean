
/-
  OPENING ARGUMENTS: whatever flat type (integers, bools, strings, structs and arrays of these; slices of such) an argument has, its cells are of the kinds that the type says.
  Plain lemmas over any program; nothing of a dump.
-/
import Derived.WalkKit
import Derived.ProofKit
import Derived.OpenShut
import Derived.Deep.Slices
import Derived.Deep.Draws
namespace Go.Proofs.Ytpfbagkjhchojaa
open Go.RowKit

/-- A scalar's kind: an integer of a kind, a bool, a string. -/
inductive Sc where
  | i (k : IntKind)
  | b
  | s

/-- A cell is of a scalar's kind. -/
def Sc.ok : Sc → Value → Prop
  | .i k, v => ∃ z, v = .int k z ∧ (Lit.int k z).wf = true
  | .b, v => ∃ c, v = .bool c
  | .s, v => ∃ t : ByteArray, v = .string t ∧ t.size ≤ maxLen

def flatFields (P : Program) (fl : TypeId → Option (List Sc)) : List Field → List Sc → Option (List Sc)
  | [], acc => some acc
  | f :: fs, acc => match fl f.type with
    | some l => if f.offset = acc.length ∧ P.cellsOf f.type = l.length then flatFields P fl fs (acc ++ l) else none
    | none => none

/-- The scalars' kinds of a type, cell by cell. -/
def flat (P : Program) : Nat → TypeId → Option (List Sc)
  | 0, _ => none
  | n + 1, t => match P.underlying t with
    | some .bool => some [.b]
    | some (.int k) => some [.i k]
    | some .string => some [.s]
    | some (.struct fs) => match flatFields P (flat P n) fs.toList [] with
      | some l => if P.cellsOf t = l.length then some l else none
      | none => none
    | some (.array m e) => match flat P n e with
      | some l => if P.cellsOf e = l.length ∧ P.cellsOf t = m * l.length ∧ 0 < l.length then some (List.replicate m l).flatten else none
      | none => none
    | _ => none

/-- The cells cs are of the kinds ks, one by one. -/
def Kinds (ks : List Sc) (cs : List Value) : Prop := cs.length = ks.length ∧ ∀ (j : Nat) (k : Sc) (v : Value), ks[j]? = some k → cs[j]? = some v → k.ok v

theorem Kinds.append {a b : List Sc} {cs : List Value} (h1 : Kinds a (cs.take a.length)) (h2 : Kinds b (cs.drop a.length)) : Kinds (a ++ b) cs := by
  obtain ⟨l1, k1⟩ := h1
  obtain ⟨l2, k2⟩ := h2
  simp only [List.length_take] at l1
  simp only [List.length_drop] at l2
  refine ⟨by rw [List.length_append]; omega, fun j k v hk hv => ?_⟩
  by_cases hj : j < a.length
  · rw [List.getElem?_append_left hj] at hk
    exact k1 j k v hk (by rw [List.getElem?_take, if_pos hj]; exact hv)
  · rw [List.getElem?_append_right (by omega)] at hk
    exact k2 (j - a.length) k v hk (by rw [List.getElem?_drop]; rw [show a.length + (j - a.length) = j from by omega]; exact hv)

theorem Kinds.one {k : Sc} {v : Value} (h : k.ok v) : Kinds [k] [v] := by
  refine ⟨rfl, fun j k' v' hk hv => ?_⟩
  match j with
  | 0 => simp at hk hv; subst hk hv; exact h
  | j + 1 => simp at hk

section
variable {H : Type} {enc : TypeId × Value → H} {P : Program} {w : World} {base : Nat} {spare : Nat → Bool} {held : Bool}
open Go.ChangeShapes Go.WideShapes

theorem flatFields_ok (n : Nat) (ih : ∀ (t : TypeId) (l : List Sc), flat P n t = some l → ∀ (fuel : Nat) (cs : List Value) (x : DataW H × List MemPlace), DataW.trod enc P w base spare held fuel t cs = some x → Kinds l cs)
    (cs : List Value) (fs : List Field) : ∀ (acc l : List Sc), flatFields P (flat P n) fs acc = some l → Kinds acc (cs.take acc.length) →
    (∀ f ∈ fs, ∃ (m : Nat) (y : DataW H × List MemPlace), DataW.trod enc P w base spare held m f.type ((cs.drop f.offset).take (P.cellsOf f.type)) = some y) → Kinds l (cs.take l.length) := by
  induction fs with
  | nil =>
    intro acc l h ha _
    simp only [flatFields, Option.some.injEq] at h
    subst h
    exact ha
  | cons f fs IH =>
    intro acc l h ha hf
    simp only [flatFields] at h
    cases hfl : flat P n f.type with
    | none => rw [hfl] at h; simp at h
    | some l1 =>
      rw [hfl] at h
      simp only at h
      by_cases hc : f.offset = acc.length ∧ P.cellsOf f.type = l1.length
      · rw [if_pos hc] at h
        obtain ⟨m, y, hy⟩ := hf f (by simp)
        have hk := ih f.type l1 hfl m _ y hy
        rw [hc.1, hc.2] at hk
        refine IH (acc ++ l1) l h ?_ (fun g hg => hf g (by simp [hg]))
        have h1 : (cs.take (acc ++ l1).length).take acc.length = cs.take acc.length := by rw [List.take_take]; congr 1; simp
        have h2 : (cs.take (acc ++ l1).length).drop acc.length = (cs.drop acc.length).take l1.length := by rw [List.drop_take]; congr 1; simp
        exact Kinds.append (by rw [h1]; exact ha) (by rw [h2]; exact hk)
      · rw [if_neg hc] at h; simp at h

theorem Kinds.replicate {l : List Sc} (m : Nat) : ∀ (cs : List Value), cs.length = m * l.length → (∀ i, i < m → Kinds l ((cs.drop (i * l.length)).take l.length)) → Kinds (List.replicate m l).flatten cs := by
  induction m with
  | zero =>
    intro cs h _
    have : cs = [] := List.eq_nil_of_length_eq_zero (by simpa using h)
    subst this
    exact ⟨rfl, fun j k v hk hv => by simp at hk⟩
  | succ m ih =>
    intro cs h hi
    rw [List.replicate_succ, List.flatten_cons]
    have h0 := hi 0 (by omega)
    rw [Nat.zero_mul, List.drop_zero] at h0
    refine Kinds.append h0 (ih (cs.drop l.length) (by rw [List.length_drop, h, Nat.add_mul]; omega) (fun i hi' => ?_))
    have h1 := hi (i + 1) (by omega)
    rw [List.drop_drop]
    rw [show l.length + i * l.length = (i + 1) * l.length from by rw [Nat.add_mul]; omega]
    exact h1

theorem flat_ok (n : Nat) : ∀ (t : TypeId) (l : List Sc), flat P n t = some l → ∀ (fuel : Nat) (cs : List Value) (x : DataW H × List MemPlace), DataW.trod enc P w base spare held fuel t cs = some x → Kinds l cs := by
  induction n with
  | zero => intro t l h; simp [flat] at h
  | succ n ih =>
    intro t l h fuel cs x hx
    unfold flat at h
    split at h
    · rename_i hu
      simp only [Option.some.injEq] at h
      subst h
      obtain ⟨b, rfl, _⟩ := DataW.trod_bool hu hx
      exact Kinds.one ⟨b, rfl⟩
    · rename_i k hu
      simp only [Option.some.injEq] at h
      subst h
      obtain ⟨z, rfl, _, hz⟩ := DataW.trod_int hu hx
      exact Kinds.one ⟨z, rfl, hz⟩
    · rename_i hu
      simp only [Option.some.injEq] at h
      subst h
      obtain ⟨s, rfl, _, hs⟩ := DataW.trod_string hu hx
      exact Kinds.one ⟨s, rfl, hs⟩
    · rename_i fs hu
      cases hff : flatFields P (flat P n) fs.toList [] with
      | none => rw [hff] at h; simp at h
      | some l1 =>
        rw [hff] at h
        simp only at h
        by_cases hc : P.cellsOf t = l1.length
        · rw [if_pos hc] at h
          simp only [Option.some.injEq] at h
          subst h
          obtain ⟨xs, m, _, _, hlen, hxl, hf⟩ := DataW.trod_struct hu hx
          have hk := flatFields_ok (enc := enc) (w := w) (base := base) (spare := spare) (held := held) n ih cs fs.toList [] l1 hff ⟨rfl, fun j k v hk hv => by simp at hk⟩ (fun f hfm => by
            obtain ⟨i, hi⟩ := List.getElem?_of_mem hfm
            have hi' : fs[i]? = some f := by simpa using hi
            have hil : i < fs.size := (Array.getElem?_eq_some_iff.1 hi').1
            have := hf i f hi'
            rw [List.getElem?_eq_getElem (by omega)] at this
            exact ⟨m, _, this⟩)
          rwa [List.take_of_length_le (by omega)] at hk
        · rw [if_neg hc] at h; simp at h
    · rename_i m e hu
      cases hfe : flat P n e with
      | none => rw [hfe] at h; simp at h
      | some l1 =>
        rw [hfe] at h
        simp only at h
        by_cases hc : P.cellsOf e = l1.length ∧ P.cellsOf t = m * l1.length ∧ 0 < l1.length
        · rw [if_pos hc] at h
          simp only [Option.some.injEq] at h
          subst h
          obtain ⟨xs, m', _, _, hlen, hxl, hf⟩ := DataW.trod_array hu hx
          refine Kinds.replicate m cs (by omega) (fun i hi => ?_)
          have := hf i hi
          rw [List.getElem?_eq_getElem (by omega), hc.1] at this
          exact ih e l1 hfe m' _ _ this
        · rw [if_neg hc] at h; simp at h
    · simp at h
end

/-- The address A leads to the cells xs, in a block below B (of no cells nothing is said). -/
def Rd (w : World) (B : Nat) (A : Option Addr) (xs : List Value) : Prop :=
  xs ≠ [] → ∃ b off, A = some ⟨b, off, none⟩ ∧ b < B ∧ ∀ j u, xs[j]? = some u → w.cell? ⟨b, off + j, none⟩ = some u

section
variable {w w' : World} {B B' : Nat} {A : Option Addr} {xs : List Value}
theorem Rd.nil : Rd w B A [] := fun h => absurd rfl h
theorem Rd.keep (h : Rd w B A xs) (hk : ∀ p : Addr, p.block < B → w'.cell? p = w.cell? p) : Rd w' B A xs := fun hn => by
  obtain ⟨b, off, e, hb, hc⟩ := h hn
  exact ⟨b, off, e, hb, fun j u hu => (hk _ hb).trans (hc j u hu)⟩
theorem Rd.more (h : Rd w B A xs) (hB : B ≤ B') : Rd w B' A xs := fun hn => by
  obtain ⟨b, off, e, hb, hc⟩ := h hn
  exact ⟨b, off, e, by omega, hc⟩
theorem Rd.below (h : Rd w B A xs) (hb : Below B w w') : Rd w' B A xs := h.keep fun _ hp => hb.cell hp
theorem Rd.alloc (h : Rd w B A xs) (hB : B ≤ w.heap.size) (o : Obj) : Rd (w.alloc o) B A xs := h.keep fun p hp => World.cell?_alloc_lt w o p (by omega)
theorem Rd.drewN (h : Rd w B A xs) (n : Nat) : Rd (w.drewN n) B A xs := h
theorem Rd.grown (h : Rd w B A xs) {row : Option Nat} (hg : w.grownBy w' row) (hB : B ≤ w.heap.size) (hr : ∀ g, row = some g → B ≤ g) : Rd w' B A xs :=
  h.keep fun p hp => World.cell?_of_block (hg.block p.block (by omega) (fun e => by have := hr _ e.symm; omega))
theorem Rd.take_ (h : Rd w B A xs) (n : Nat) : Rd w B A (xs.take n) := fun hn => by
  obtain ⟨b, off, e, hb, hc⟩ := h (by intro e; subst e; simp at hn)
  refine ⟨b, off, e, hb, fun j u hu => hc j u ?_⟩
  rw [List.getElem?_take] at hu
  split at hu
  · exact hu
  · cases hu
theorem Rd.at_ {k : Nat} (h : Rd w B A xs) (hk : k < xs.length) : ∃ b off, A = some ⟨b, off, none⟩ ∧ b < B ∧ (∀ j u, xs[j]? = some u → w.cell? ⟨b, off + j, none⟩ = some u) ∧ w.cell? ⟨b, off + k, none⟩ = some xs[k] := by
  obtain ⟨b, off, e, hb, hc⟩ := h (by intro e; subst e; simp at hk)
  exact ⟨b, off, e, hb, hc, hc k _ (List.getElem?_eq_getElem hk)⟩
end

section
variable {H : Type} {enc : TypeId × Value → H} {P : Program} {w : World} {spare : Nat → Bool} {held : Bool}
open Go.ChangeShapes Go.WideShapes Go.Deep

theorem cells_at {a : Addr} {n : Nat} {base : Nat} {cs : List Value} (h : w.cells? base a n = some cs) : base ≤ a.block ∧ cs.length = n ∧ ∀ j, j < n → w.cell? (a.add j) = cs[j]? := by
  obtain ⟨h1, h2, h3⟩ := World.cells?_some h
  exact ⟨h1, h2, h3⟩

/-- A slice of flat elements, opened. -/
theorem open_flat {t e : TypeId} {n : Nat} {ks : List Sc} {v : Value} {d : DataW H} {p : List MemPlace} {r : Reach} {b0 : Nat} (ht : P.underlying t = some (.slice e)) (hk : flat P n e = some ks) (hce : P.cellsOf e = ks.length) (hpos : 0 < ks.length)
    (hv : Value.okWide P w r b0 t v) (h : DataW.Trod enc P w 0 spare held t v d p) :
    ∃ (A : Option Addr) (len cap : Nat) (xs : List Value), v = .slice A len cap ∧ len ≤ cap ∧ cap ≤ maxLen ∧ xs.length = len * ks.length ∧ Rd w w.heap.size A xs ∧ (∀ i, i < len → Kinds ks ((xs.drop (i * ks.length)).take ks.length)) := by
  obtain ⟨A, len, cap, rfl⟩ := okWide_slice ht hv
  have hlt : ∀ x ∈ p, x.block < w.heap.size := by obtain ⟨m, hm⟩ := h; exact DataW.trod_lt m _ _ _ hm
  obtain ⟨fuel, hf⟩ := h
  rcases open_slice ht hf with ⟨h0, _⟩ | ⟨a, len', cap', m, n', D, Pl, h0, _, hl, hm, hmm, hx, hi⟩
  · simp [Value.cells] at h0
    obtain ⟨rfl, rfl, rfl⟩ := h0
    exact ⟨none, 0, 0, [], rfl, Nat.le_refl _, Nat.zero_le _, by simp, Rd.nil, fun i hi => absurd hi (by omega)⟩
  · simp [Value.cells] at h0
    obtain ⟨rfl, rfl, rfl⟩ := h0
    have hlm : len ≤ m := by rw [hmm]; split <;> omega
    rw [hce] at hi
    -- the cells, one by one
    have hcell : ∀ j, j < len * ks.length → ∃ u, w.cell? (a.add j) = some u := by
      intro j hj
      have hq : j / ks.length < len := Nat.div_lt_of_lt_mul (by rw [Nat.mul_comm]; exact hj)
      obtain ⟨cs', hc, _⟩ := hi (j / ks.length) (by omega)
      obtain ⟨_, hcl, hat⟩ := cells_at hc
      have hr : j % ks.length < ks.length := Nat.mod_lt _ hpos
      have := hat (j % ks.length) hr
      rw [List.getElem?_eq_getElem (by omega), Go.Deep.add_add] at this
      rw [show j / ks.length * ks.length + j % ks.length = j from Nat.div_add_mod' _ _] at this
      exact ⟨_, this⟩
    refine ⟨some a, len, cap, (List.range (len * ks.length)).map fun j => (w.cell? (a.add j)).getD undef, rfl, hl, hm, by simp, ?_, ?_⟩
    · intro hne
      have hpos' : 0 < len * ks.length := by
        rcases Nat.eq_zero_or_pos (len * ks.length) with h0 | h0
        · rw [h0] at hne; simp at hne
        · exact h0
      obtain ⟨u, hu⟩ := hcell 0 hpos'
      have hlen : 0 < len := Nat.pos_of_mul_pos_right hpos'
      have hspot : a.spot = none := by
        have := World.cell?_spot hu
        simpa [Addr.add] using this
      obtain ⟨b, off, spot⟩ := a
      simp only at hspot
      subst hspot
      refine ⟨b, off, rfl, ?_, fun j u hu => ?_⟩
      · have : MemPlace.cell b off ∈ p := by
          simp only [Prod.mk.injEq] at hx
          rw [hx.2]
          refine List.mem_append_left _ ?_
          unfold MemPlace.row
          rw [List.mem_map]
          refine ⟨0, ?_, by simp⟩
          rw [List.mem_range, hce]
          exact Nat.mul_pos (by omega) hpos
        exact hlt _ this
      · have hj : j < len * ks.length := by
          have := (List.getElem?_eq_some_iff.1 hu).1
          simpa using this
        simp only [List.getElem?_map, List.getElem?_range hj, Option.map_some, Option.some.injEq] at hu
        obtain ⟨u', hu'⟩ := hcell j hj
        rw [hu'] at hu
        simp only [Option.getD_some] at hu
        subst hu
        have he : (⟨b, off, none⟩ : Addr).add j = ⟨b, off + j, none⟩ := by unfold Addr.add; split <;> simp_all
        rw [he] at hu'
        exact hu'
    · intro i hilt
      obtain ⟨cs', hc, htr⟩ := hi i (by omega)
      obtain ⟨_, hcl, hat⟩ := cells_at hc
      have hkk := flat_ok n e ks hk n' cs' _ htr
      have hle : (i + 1) * ks.length ≤ len * ks.length := Nat.mul_le_mul_right _ hilt
      rw [Nat.add_mul, Nat.one_mul] at hle
      have heq : ((((List.range (len * ks.length)).map fun j => (w.cell? (a.add j)).getD undef).drop (i * ks.length)).take ks.length) = cs' := by
        apply List.ext_getElem?
        intro j
        by_cases hj : j < ks.length
        · rw [List.getElem?_take, if_pos hj, List.getElem?_drop]
          simp only [List.getElem?_map, List.getElem?_range (show i * ks.length + j < len * ks.length by omega), Option.map_some]
          have := hat j hj
          rw [Go.Deep.add_add] at this
          rw [this, List.getElem?_eq_getElem (by omega)]
          rfl
        · rw [List.getElem?_take, if_neg hj, List.getElem?_eq_none (by omega)]
      rw [heq]
      exact hkk
end

/-- A struct or an array by value, of flat make. -/
theorem open_struct {H : Type} {enc : TypeId × Value → H} {P : Program} {w : World} {spare : Nat → Bool} {held : Bool} {t : TypeId} {n : Nat} {ks : List Sc} {v : Value} {d : DataW H} {p : List MemPlace} {r : Reach} {b0 : Nat} {fs : Array Field} (ht : P.underlying t = some (.struct fs)) (hk : flat P n t = some ks)
    (hv : Value.okWide P w r b0 t v) (h : DataW.Trod enc P w 0 spare held t v d p) : ∃ cs : Array Value, v = .agg cs ∧ Kinds ks cs.toList := by
  obtain ⟨cs, rfl, _⟩ := Go.WideShapes.okWide_struct ht hv
  obtain ⟨fuel, hf⟩ := h
  exact ⟨cs, rfl, flat_ok n t ks hk fuel _ _ hf⟩

/-- One kind all along: integers. -/
theorem ints_of {k : IntKind} {xs : List Value} {n : Nat} (hl : xs.length = n * 1) (h : ∀ i, i < n → Kinds [Sc.i k] ((xs.drop (i * 1)).take 1)) : ∃ zs : List Int, xs = zs.map (Value.int k) ∧ zs.length = n ∧ ∀ z ∈ zs, (Lit.int k z).wf = true := by
  induction xs generalizing n with
  | nil => exact ⟨[], rfl, by simpa using hl, by simp⟩
  | cons x xs ih =>
    cases n with
    | zero => simp at hl
    | succ n =>
      obtain ⟨zs, e, hz, hw⟩ := ih (n := n) (by simpa using hl) (fun i hi => by have := h (i + 1) (by omega); simpa using this)
      obtain ⟨_, h0⟩ := h 0 (by omega)
      obtain ⟨z, e0, w0⟩ := h0 0 (.i k) x rfl (by simp)
      subst e e0
      exact ⟨z :: zs, rfl, by simp [hz], fun y hy => by rcases List.mem_cons.1 hy with rfl | hy; exact w0; exact hw y hy⟩
theorem strings_of {xs : List Value} {n : Nat} (hl : xs.length = n * 1) (h : ∀ i, i < n → Kinds [Sc.s] ((xs.drop (i * 1)).take 1)) : ∃ zs : List ByteArray, xs = zs.map Value.string ∧ zs.length = n ∧ ∀ z ∈ zs, z.size ≤ maxLen := by
  induction xs generalizing n with
  | nil => exact ⟨[], rfl, by simpa using hl, by simp⟩
  | cons x xs ih =>
    cases n with
    | zero => simp at hl
    | succ n =>
      obtain ⟨zs, e, hz, hw⟩ := ih (n := n) (by simpa using hl) (fun i hi => by have := h (i + 1) (by omega); simpa using this)
      obtain ⟨_, h0⟩ := h 0 (by omega)
      obtain ⟨z, e0, w0⟩ := h0 0 .s x rfl (by simp)
      subst e e0
      exact ⟨z :: zs, rfl, by simp [hz], fun y hy => by rcases List.mem_cons.1 hy with rfl | hy; exact w0; exact hw y hy⟩
theorem bools_of {xs : List Value} {n : Nat} (hl : xs.length = n * 1) (h : ∀ i, i < n → Kinds [Sc.b] ((xs.drop (i * 1)).take 1)) : ∃ zs : List Bool, xs = zs.map Value.bool ∧ zs.length = n := by
  induction xs generalizing n with
  | nil => exact ⟨[], rfl, by simpa using hl⟩
  | cons x xs ih =>
    cases n with
    | zero => simp at hl
    | succ n =>
      obtain ⟨zs, e, hz⟩ := ih (n := n) (by simpa using hl) (fun i hi => by have := h (i + 1) (by omega); simpa using this)
      obtain ⟨_, h0⟩ := h 0 (by omega)
      obtain ⟨z, e0⟩ := h0 0 .b x rfl (by simp)
      subst e e0
      exact ⟨z :: zs, rfl, by simp [hz]⟩
end Go.Proofs.Ytpfbagkjhchojaa
