/- Part 1 of the proof: texts of my own, laid behind one another. No condition. -/
import Derived.WalkKit
import Derived.Laws.BitsAllLaws
import Derived.ProofKit
import Derived.OpenShut
import Derived.Deep.Slices
import Derived.Deep.Draws
import Derived.Maps.AppendAt
import Derived.RegionTactic
import Derived.OwnWalk
import Derived.Laws.BytesArg
import Derived.Test.YtloldofjddbjoaaGreatChecked
import Derived.Lib.Hide
import Derived.Deep.QuietTactic
import Derived.BigQuiet
import Derived.WalkSpells
import Derived.DeepKeys5
import Derived.Laws.CopyOwn
import Derived.Deep.RegionHeld3
import Derived.Deep.RegionWith
import Derived.Laws.IdiomStrings
import Derived.OrdersHeld
import Derived.IntWalk
import Derived.Below
import Derived.ScopeJumps
import Derived.Test.YtloldofjddbjoaaGreatProg
import Derived.Lib.Overlaps
import Derived.Laws.Externs
import Derived.WideKeyRuns
import Derived.MapKept
import Derived.Maps.RangeRun
import Derived.Lib.Bytealg
set_option linter.unusedVariables false
set_option linter.unusedSimpArgs false
namespace Go.Proofs.YtloldofjddbjoaaGreat
open Go.RowKit
def le (n : Int) : Nat → List Int
  | 0 => []
  | w + 1 => n % 256 :: le (n / 256) w
def num : List Int → Int
  | [] => 0
  | b :: l => b + 256 * num l
theorem le_length (w : Nat) : ∀ n, (le n w).length = w := by
  induction w with
  | zero => intro n; rfl
  | succ w ih => intro n; simp [le, ih]
theorem le_byte (w : Nat) : ∀ n, ∀ b ∈ le n w, 0 ≤ b ∧ b < 256 := by
  induction w with
  | zero => intro n b hb; simp [le] at hb
  | succ w ih =>
    intro n b hb
    simp only [le, List.mem_cons] at hb
    rcases hb with rfl | hb
    · omega
    · exact ih _ b hb
theorem ediv_pow (n : Int) (w : Nat) : n / 256 / 256 ^ w = n / 256 ^ (w + 1) := by
  rw [Int.pow_succ, Int.mul_comm, Int.ediv_ediv_of_nonneg (by decide)]
theorem le_snoc (w : Nat) : ∀ n, le n (w + 1) = le n w ++ [n / 256 ^ w % 256] := by
  induction w with
  | zero => intro n; simp [le]
  | succ w ih =>
    intro n
    rw [le, ih (n / 256), le, List.cons_append, ediv_pow]
theorem num_bd (l : List Int) (h : ∀ b ∈ l, 0 ≤ b ∧ b < 256) : 0 ≤ num l ∧ num l < 256 ^ l.length := by
  induction l with
  | nil => simp [num]
  | cons x l ih =>
    have hx := h x (by simp)
    have hl := ih (fun b hb => h b (by simp [hb]))
    simp only [num, List.length_cons, Int.pow_succ]
    omega
theorem emod_256 (n : Int) (w : Nat) (h : 0 ≤ n) : n % 256 + 256 * (n / 256 % 256 ^ w) = n % 256 ^ (w + 1) := by
  obtain ⟨m, rfl⟩ := Int.eq_ofNat_of_zero_le h
  have e : (m : Int) % 256 ^ (w + 1) = ((m % (256 * 256 ^ w) : Nat) : Int) := by
    rw [Int.pow_succ, Int.mul_comm]; simp only [Int.natCast_mul, Int.natCast_pow, Int.natCast_emod, Int.cast_ofNat_Int]
  rw [e, Nat.mod_mul]
  simp only [Int.natCast_add, Int.natCast_mul, Int.natCast_pow, Int.natCast_emod, Int.natCast_ediv, Int.cast_ofNat_Int]
theorem num_le (w : Nat) : ∀ n, 0 ≤ n → num (le n w) = n % 256 ^ w := by
  induction w with
  | zero => intro n _; simp [le, num]
  | succ w ih =>
    intro n h
    simp only [le, num]
    rw [ih (n / 256) (by omega), emod_256 n w h]
def pw (k : Int) : Int := 256 ^ k.toNat
def sig (n k : Int) : Int := (n + pw k / 2) % pw k - pw k / 2
def rot (n : Int) (r : Int) : Int := n * 2 ^ r.toNat % 18446744073709551616 + n / 2 ^ (64 - r).toNat
theorem or_byte (a b : Int) (h0 : 0 ≤ a) (h1 : a < 72057594037927936) (h2 : 0 ≤ b) (h3 : b < 256) : bits .or .u64 (IntKind.u64.wrap (a * 256)) b = b + 256 * a := by
  rw [IntKind.wrap_u64, Int.emod_eq_of_lt (by omega) (by omega)]
  obtain ⟨x, rfl⟩ := Int.eq_ofNat_of_zero_le h0
  obtain ⟨y, rfl⟩ := Int.eq_ofNat_of_zero_le h2
  have e : (x : Int) * 256 = ((2 ^ 8 * x : Nat) : Int) := by omega
  rw [e, u64_or_nat _ _ (by omega) (by omega), ← Nat.two_pow_add_eq_or_of_lt (by omega)]
  omega
theorem pow_mono {a b : Nat} (h : a ≤ b) : (256 : Int) ^ a ≤ 256 ^ b := by
  have e : ∀ n : Nat, (256 : Int) ^ n = ((256 ^ n : Nat) : Int) := fun n => by simp only [Int.natCast_pow, Int.cast_ofNat_Int]
  rw [e, e]
  exact Int.ofNat_le.2 (Nat.pow_le_pow_right (by decide) h)
theorem num_step (l : List Int) (a j : Nat) (ha : a < l.length) : num ((l.drop a).take (j + 1)) = l[a]?.getD 0 + 256 * num ((l.drop (a + 1)).take j) := by
  rw [List.drop_eq_getElem_cons ha, List.take_succ_cons, num, List.getElem?_eq_getElem ha]; rfl
theorem num_part (l : List Int) (a j : Nat) (hb : ∀ z ∈ l, 0 ≤ z ∧ z < 256) (hj : j ≤ 7) : 0 ≤ num ((l.drop a).take j) ∧ num ((l.drop a).take j) < 72057594037927936 := by
  have h := num_bd ((l.drop a).take j) (fun b hm => hb b (List.mem_of_mem_drop (List.mem_of_mem_take hm)))
  refine ⟨h.1, Int.lt_of_lt_of_le h.2 ?_⟩
  have : ((l.drop a).take j).length ≤ 7 := by simp; omega
  have h2 := pow_mono this
  simpa using h2
theorem byte_of {l : List Int} (hb : ∀ z ∈ l, 0 ≤ z ∧ z < 256) (i : Nat) : 0 ≤ l[i]?.getD 0 ∧ l[i]?.getD 0 < 256 := by
  rcases Nat.lt_or_ge i l.length with h | h
  · rw [List.getElem?_eq_getElem h]; exact hb _ (List.getElem_mem h)
  · rw [List.getElem?_eq_none h]; decide
inductive Sc where
  | i (k : IntKind)
  | b
  | s
def Sc.ok : Sc → Value → Prop
  | .i k, v => ∃ z, v = .int k z ∧ (Lit.int k z).wf = true
  | .b, v => ∃ c, v = .bool c
  | .s, v => ∃ t : ByteArray, v = .string t ∧ t.size ≤ maxLen
def flatFields (P : Program) (fl : TypeId → Option (List Sc)) : List Field → List Sc → Option (List Sc)
  | [], acc => some acc
  | f :: fs, acc => match fl f.type with
    | some l => if f.offset = acc.length ∧ P.cellsOf f.type = l.length then flatFields P fl fs (acc ++ l) else none
    | none => none
def flat (P : Program) : Nat → TypeId → Option (List Sc)
  | 0, _ => none
  | n + 1, t => match P.underlying t with
    | some .bool => some [.b]
    | some (.int k) => some [.i k]
    | some .string => some [.s]
    | some (.struct fs) => match flatFields P (flat P n) fs.toList [] with
      | some l => if P.cellsOf t = l.length then some l else none
      | none => none
    | some (.array m e) => match flat P n e with
      | some l => if P.cellsOf e = l.length ∧ P.cellsOf t = m * l.length ∧ 0 < l.length then some (List.replicate m l).flatten else none
      | none => none
    | _ => none
def Kinds (ks : List Sc) (cs : List Value) : Prop := cs.length = ks.length ∧ ∀ (j : Nat) (k : Sc) (v : Value), ks[j]? = some k → cs[j]? = some v → k.ok v
theorem Kinds.append {a b : List Sc} {cs : List Value} (h1 : Kinds a (cs.take a.length)) (h2 : Kinds b (cs.drop a.length)) : Kinds (a ++ b) cs := by
  obtain ⟨l1, k1⟩ := h1
  obtain ⟨l2, k2⟩ := h2
  simp only [List.length_take] at l1
  simp only [List.length_drop] at l2
  refine ⟨by rw [List.length_append]; omega, fun j k v hk hv => ?_⟩
  by_cases hj : j < a.length
  · rw [List.getElem?_append_left hj] at hk
    exact k1 j k v hk (by rw [List.getElem?_take, if_pos hj]; exact hv)
  · rw [List.getElem?_append_right (by omega)] at hk
    exact k2 (j - a.length) k v hk (by rw [List.getElem?_drop]; rw [show a.length + (j - a.length) = j from by omega]; exact hv)
theorem Kinds.one {k : Sc} {v : Value} (h : k.ok v) : Kinds [k] [v] := by
  refine ⟨rfl, fun j k' v' hk hv => ?_⟩
  match j with
  | 0 => simp at hk hv; subst hk hv; exact h
  | j + 1 => simp at hk
section
variable {H : Type} {enc : TypeId × Value → H} {P : Program} {w : World} {base : Nat} {spare : Nat → Bool} {held : Bool}
open Go.ChangeShapes Go.WideShapes
theorem flatFields_ok (n : Nat) (ih : ∀ (t : TypeId) (l : List Sc), flat P n t = some l → ∀ (fuel : Nat) (cs : List Value) (x : DataW H × List MemPlace), DataW.trod enc P w base spare held fuel t cs = some x → Kinds l cs)
    (cs : List Value) (fs : List Field) : ∀ (acc l : List Sc), flatFields P (flat P n) fs acc = some l → Kinds acc (cs.take acc.length) →
    (∀ f ∈ fs, ∃ (m : Nat) (y : DataW H × List MemPlace), DataW.trod enc P w base spare held m f.type ((cs.drop f.offset).take (P.cellsOf f.type)) = some y) → Kinds l (cs.take l.length) := by
  induction fs with
  | nil =>
    intro acc l h ha _
    simp only [flatFields, Option.some.injEq] at h
    subst h
    exact ha
  | cons f fs IH =>
    intro acc l h ha hf
    simp only [flatFields] at h
    cases hfl : flat P n f.type with
    | none => rw [hfl] at h; simp at h
    | some l1 =>
      rw [hfl] at h
      simp only at h
      by_cases hc : f.offset = acc.length ∧ P.cellsOf f.type = l1.length
      · rw [if_pos hc] at h
        obtain ⟨m, y, hy⟩ := hf f (by simp)
        have hk := ih f.type l1 hfl m _ y hy
        rw [hc.1, hc.2] at hk
        refine IH (acc ++ l1) l h ?_ (fun g hg => hf g (by simp [hg]))
        have h1 : (cs.take (acc ++ l1).length).take acc.length = cs.take acc.length := by rw [List.take_take]; congr 1; simp
        have h2 : (cs.take (acc ++ l1).length).drop acc.length = (cs.drop acc.length).take l1.length := by rw [List.drop_take]; congr 1; simp
        exact Kinds.append (by rw [h1]; exact ha) (by rw [h2]; exact hk)
      · rw [if_neg hc] at h; simp at h
theorem Kinds.replicate {l : List Sc} (m : Nat) : ∀ (cs : List Value), cs.length = m * l.length → (∀ i, i < m → Kinds l ((cs.drop (i * l.length)).take l.length)) → Kinds (List.replicate m l).flatten cs := by
  induction m with
  | zero =>
    intro cs h _
    have : cs = [] := List.eq_nil_of_length_eq_zero (by simpa using h)
    subst this
    exact ⟨rfl, fun j k v hk hv => by simp at hk⟩
  | succ m ih =>
    intro cs h hi
    rw [List.replicate_succ, List.flatten_cons]
    have h0 := hi 0 (by omega)
    rw [Nat.zero_mul, List.drop_zero] at h0
    refine Kinds.append h0 (ih (cs.drop l.length) (by rw [List.length_drop, h, Nat.add_mul]; omega) (fun i hi' => ?_))
    have h1 := hi (i + 1) (by omega)
    rw [List.drop_drop]
    rw [show l.length + i * l.length = (i + 1) * l.length from by rw [Nat.add_mul]; omega]
    exact h1
theorem flat_ok (n : Nat) : ∀ (t : TypeId) (l : List Sc), flat P n t = some l → ∀ (fuel : Nat) (cs : List Value) (x : DataW H × List MemPlace), DataW.trod enc P w base spare held fuel t cs = some x → Kinds l cs := by
  induction n with
  | zero => intro t l h; simp [flat] at h
  | succ n ih =>
    intro t l h fuel cs x hx
    unfold flat at h
    split at h
    · rename_i hu
      simp only [Option.some.injEq] at h
      subst h
      obtain ⟨b, rfl, _⟩ := DataW.trod_bool hu hx
      exact Kinds.one ⟨b, rfl⟩
    · rename_i k hu
      simp only [Option.some.injEq] at h
      subst h
      obtain ⟨z, rfl, _, hz⟩ := DataW.trod_int hu hx
      exact Kinds.one ⟨z, rfl, hz⟩
    · rename_i hu
      simp only [Option.some.injEq] at h
      subst h
      obtain ⟨s, rfl, _, hs⟩ := DataW.trod_string hu hx
      exact Kinds.one ⟨s, rfl, hs⟩
    · rename_i fs hu
      cases hff : flatFields P (flat P n) fs.toList [] with
      | none => rw [hff] at h; simp at h
      | some l1 =>
        rw [hff] at h
        simp only at h
        by_cases hc : P.cellsOf t = l1.length
        · rw [if_pos hc] at h
          simp only [Option.some.injEq] at h
          subst h
          obtain ⟨xs, m, _, _, hlen, hxl, hf⟩ := DataW.trod_struct hu hx
          have hk := flatFields_ok (enc := enc) (w := w) (base := base) (spare := spare) (held := held) n ih cs fs.toList [] l1 hff ⟨rfl, fun j k v hk hv => by simp at hk⟩ (fun f hfm => by
            obtain ⟨i, hi⟩ := List.getElem?_of_mem hfm
            have hi' : fs[i]? = some f := by simpa using hi
            have hil : i < fs.size := (Array.getElem?_eq_some_iff.1 hi').1
            have := hf i f hi'
            rw [List.getElem?_eq_getElem (by omega)] at this
            exact ⟨m, _, this⟩)
          rwa [List.take_of_length_le (by omega)] at hk
        · rw [if_neg hc] at h; simp at h
    · rename_i m e hu
      cases hfe : flat P n e with
      | none => rw [hfe] at h; simp at h
      | some l1 =>
        rw [hfe] at h
        simp only at h
        by_cases hc : P.cellsOf e = l1.length ∧ P.cellsOf t = m * l1.length ∧ 0 < l1.length
        · rw [if_pos hc] at h
          simp only [Option.some.injEq] at h
          subst h
          obtain ⟨xs, m', _, _, hlen, hxl, hf⟩ := DataW.trod_array hu hx
          refine Kinds.replicate m cs (by omega) (fun i hi => ?_)
          have := hf i hi
          rw [List.getElem?_eq_getElem (by omega), hc.1] at this
          exact ih e l1 hfe m' _ _ this
        · rw [if_neg hc] at h; simp at h
    · simp at h
end
def Rd (w : World) (B : Nat) (A : Option Addr) (xs : List Value) : Prop :=
  xs ≠ [] → ∃ b off, A = some ⟨b, off, none⟩ ∧ b < B ∧ ∀ j u, xs[j]? = some u → w.cell? ⟨b, off + j, none⟩ = some u
section
variable {w w' : World} {B B' : Nat} {A : Option Addr} {xs : List Value}
theorem Rd.nil : Rd w B A [] := fun h => absurd rfl h
theorem Rd.keep (h : Rd w B A xs) (hk : ∀ p : Addr, p.block < B → w'.cell? p = w.cell? p) : Rd w' B A xs := fun hn => by
  obtain ⟨b, off, e, hb, hc⟩ := h hn
  exact ⟨b, off, e, hb, fun j u hu => (hk _ hb).trans (hc j u hu)⟩
theorem Rd.more (h : Rd w B A xs) (hB : B ≤ B') : Rd w B' A xs := fun hn => by
  obtain ⟨b, off, e, hb, hc⟩ := h hn
  exact ⟨b, off, e, by omega, hc⟩
theorem Rd.below (h : Rd w B A xs) (hb : Below B w w') : Rd w' B A xs := h.keep fun _ hp => hb.cell hp
theorem Rd.alloc (h : Rd w B A xs) (hB : B ≤ w.heap.size) (o : Obj) : Rd (w.alloc o) B A xs := h.keep fun p hp => World.cell?_alloc_lt w o p (by omega)
theorem Rd.drewN (h : Rd w B A xs) (n : Nat) : Rd (w.drewN n) B A xs := h
theorem Rd.grown (h : Rd w B A xs) {row : Option Nat} (hg : w.grownBy w' row) (hB : B ≤ w.heap.size) (hr : ∀ g, row = some g → B ≤ g) : Rd w' B A xs :=
  h.keep fun p hp => World.cell?_of_block (hg.block p.block (by omega) (fun e => by have := hr _ e.symm; omega))
theorem Rd.at_ {k : Nat} (h : Rd w B A xs) (hk : k < xs.length) : ∃ b off, A = some ⟨b, off, none⟩ ∧ b < B ∧ (∀ j u, xs[j]? = some u → w.cell? ⟨b, off + j, none⟩ = some u) ∧ w.cell? ⟨b, off + k, none⟩ = some xs[k] := by
  obtain ⟨b, off, e, hb, hc⟩ := h (by intro e; subst e; simp at hk)
  exact ⟨b, off, e, hb, hc, hc k _ (List.getElem?_eq_getElem hk)⟩
end
section
variable {H : Type} {enc : TypeId × Value → H} {P : Program} {w : World} {spare : Nat → Bool} {held : Bool}
open Go.ChangeShapes Go.WideShapes Go.Deep
theorem cells_at {a : Addr} {n : Nat} {base : Nat} {cs : List Value} (h : w.cells? base a n = some cs) : base ≤ a.block ∧ cs.length = n ∧ ∀ j, j < n → w.cell? (a.add j) = cs[j]? := by
  obtain ⟨h1, h2, h3⟩ := World.cells?_some h
  exact ⟨h1, h2, h3⟩
theorem open_flat {t e : TypeId} {n : Nat} {ks : List Sc} {v : Value} {d : DataW H} {p : List MemPlace} {r : Reach} {b0 : Nat} (ht : P.underlying t = some (.slice e)) (hk : flat P n e = some ks) (hce : P.cellsOf e = ks.length) (hpos : 0 < ks.length)
    (hv : Value.okWide P w r b0 t v) (h : DataW.Trod enc P w 0 spare held t v d p) :
    ∃ (A : Option Addr) (len cap : Nat) (xs : List Value), v = .slice A len cap ∧ len ≤ cap ∧ cap ≤ maxLen ∧ xs.length = len * ks.length ∧ Rd w w.heap.size A xs ∧ (∀ i, i < len → Kinds ks ((xs.drop (i * ks.length)).take ks.length)) := by
  obtain ⟨A, len, cap, rfl⟩ := okWide_slice ht hv
  have hlt : ∀ x ∈ p, x.block < w.heap.size := by obtain ⟨m, hm⟩ := h; exact DataW.trod_lt m _ _ _ hm
  obtain ⟨fuel, hf⟩ := h
  rcases open_slice ht hf with ⟨h0, _⟩ | ⟨a, len', cap', m, n', D, Pl, h0, _, hl, hm, hmm, hx, hi⟩
  · simp [Value.cells] at h0
    obtain ⟨rfl, rfl, rfl⟩ := h0
    exact ⟨none, 0, 0, [], rfl, Nat.le_refl _, Nat.zero_le _, by simp, Rd.nil, fun i hi => absurd hi (by omega)⟩
  · simp [Value.cells] at h0
    obtain ⟨rfl, rfl, rfl⟩ := h0
    have hlm : len ≤ m := by rw [hmm]; split <;> omega
    rw [hce] at hi
    -- the cells, one by one
    have hcell : ∀ j, j < len * ks.length → ∃ u, w.cell? (a.add j) = some u := by
      intro j hj
      have hq : j / ks.length < len := Nat.div_lt_of_lt_mul (by rw [Nat.mul_comm]; exact hj)
      obtain ⟨cs', hc, _⟩ := hi (j / ks.length) (by omega)
      obtain ⟨_, hcl, hat⟩ := cells_at hc
      have hr : j % ks.length < ks.length := Nat.mod_lt _ hpos
      have := hat (j % ks.length) hr
      rw [List.getElem?_eq_getElem (by omega), Go.Deep.add_add] at this
      rw [show j / ks.length * ks.length + j % ks.length = j from Nat.div_add_mod' _ _] at this
      exact ⟨_, this⟩
    refine ⟨some a, len, cap, (List.range (len * ks.length)).map fun j => (w.cell? (a.add j)).getD undef, rfl, hl, hm, by simp, ?_, ?_⟩
    · intro hne
      have hpos' : 0 < len * ks.length := by
        rcases Nat.eq_zero_or_pos (len * ks.length) with h0 | h0
        · rw [h0] at hne; simp at hne
        · exact h0
      obtain ⟨u, hu⟩ := hcell 0 hpos'
      have hlen : 0 < len := Nat.pos_of_mul_pos_right hpos'
      have hspot : a.spot = none := by
        have := World.cell?_spot hu
        simpa [Addr.add] using this
      obtain ⟨b, off, spot⟩ := a
      simp only at hspot
      subst hspot
      refine ⟨b, off, rfl, ?_, fun j u hu => ?_⟩
      · have : MemPlace.cell b off ∈ p := by
          simp only [Prod.mk.injEq] at hx
          rw [hx.2]
          refine List.mem_append_left _ ?_
          unfold MemPlace.row
          rw [List.mem_map]
          refine ⟨0, ?_, by simp⟩
          rw [List.mem_range, hce]
          exact Nat.mul_pos (by omega) hpos
        exact hlt _ this
      · have hj : j < len * ks.length := by
          have := (List.getElem?_eq_some_iff.1 hu).1
          simpa using this
        simp only [List.getElem?_map, List.getElem?_range hj, Option.map_some, Option.some.injEq] at hu
        obtain ⟨u', hu'⟩ := hcell j hj
        rw [hu'] at hu
        simp only [Option.getD_some] at hu
        subst hu
        have he : (⟨b, off, none⟩ : Addr).add j = ⟨b, off + j, none⟩ := by unfold Addr.add; split <;> simp_all
        rw [he] at hu'
        exact hu'
    · intro i hilt
      obtain ⟨cs', hc, htr⟩ := hi i (by omega)
      obtain ⟨_, hcl, hat⟩ := cells_at hc
      have hkk := flat_ok n e ks hk n' cs' _ htr
      have hle : (i + 1) * ks.length ≤ len * ks.length := Nat.mul_le_mul_right _ hilt
      rw [Nat.add_mul, Nat.one_mul] at hle
      have heq : ((((List.range (len * ks.length)).map fun j => (w.cell? (a.add j)).getD undef).drop (i * ks.length)).take ks.length) = cs' := by
        apply List.ext_getElem?
        intro j
        by_cases hj : j < ks.length
        · rw [List.getElem?_take, if_pos hj, List.getElem?_drop]
          simp only [List.getElem?_map, List.getElem?_range (show i * ks.length + j < len * ks.length by omega), Option.map_some]
          have := hat j hj
          rw [Go.Deep.add_add] at this
          rw [this, List.getElem?_eq_getElem (by omega)]
          rfl
        · rw [List.getElem?_take, if_neg hj, List.getElem?_eq_none (by omega)]
      rw [heq]
      exact hkk
end
theorem ints_of {k : IntKind} {xs : List Value} {n : Nat} (hl : xs.length = n * 1) (h : ∀ i, i < n → Kinds [Sc.i k] ((xs.drop (i * 1)).take 1)) : ∃ zs : List Int, xs = zs.map (Value.int k) ∧ zs.length = n ∧ ∀ z ∈ zs, (Lit.int k z).wf = true := by
  induction xs generalizing n with
  | nil => exact ⟨[], rfl, by simpa using hl, by simp⟩
  | cons x xs ih =>
    cases n with
    | zero => simp at hl
    | succ n =>
      obtain ⟨zs, e, hz, hw⟩ := ih (n := n) (by simpa using hl) (fun i hi => by have := h (i + 1) (by omega); simpa using this)
      obtain ⟨_, h0⟩ := h 0 (by omega)
      obtain ⟨z, e0, w0⟩ := h0 0 (.i k) x rfl (by simp)
      subst e e0
      exact ⟨z :: zs, rfl, by simp [hz], fun y hy => by rcases List.mem_cons.1 hy with rfl | hy; exact w0; exact hw y hy⟩
end Go.Proofs.YtloldofjddbjoaaGreat
namespace Go.Proofs.YtloldofjddbjoaaGreat
open Go.RowKit
structure App (P : Program) (t e : TypeId) (size bytes : Nat) : Prop where
  ty : P.underlying t = some (.slice e)
  info : ∃ i z, P.info? e = some i ∧ i.zero = some z ∧ i.size = size ∧ i.bytes = bytes ∧ z.cells.size = size
  pos : 0 < size
theorem app_mk {P : Program} {t e : TypeId} {z : Value} {size bytes : Nat} (ty : P.underlying t = some (.slice e)) (h : (P.info? e).map (fun i => (i.zero, i.size, i.bytes)) = some (some z, size, bytes)) (hz : z.cells.size = size) (hp : 0 < size) : App P t e size bytes := by
  obtain ⟨i, hi, h1, h2, h3⟩ := info_parts h
  exact ⟨ty, ⟨i, z, hi, h1, h2, h3, hz⟩, hp⟩
section
variable {P : Program} {w : World} {t e : TypeId} {size bytes : Nat}
theorem run_app (hT : App P t e size bytes) (ty : TypeId) (base : Nat) (v : Value) (n : Nat) (xs : List Value) (hown : w.ownsRow base e size v n xs)
    (B : Nat) (A : Option Addr) (m c : Nat) (news : List Value) (hl : news.length = m * size) (hr : Rd w B A news) (h1 : ∀ u ∈ news, u.oneCell' = true)
    (h63 : n + m ≤ maxLen) (hbytes : (n + m) * bytes ≤ 140737488355328) (hbase : base ≤ w.heap.size) :
    ∃ v' w', (Builtin.append_ #[t, t] ty #[v, .slice A m c]).run P w = .ok v' w' ∧ w'.ownsRow base e size v' (n + m) (xs ++ news) ∧ w.grownBy w' v.ownBlock ∧ (v'.ownBlock = v.ownBlock ∨ v'.ownBlock = some w.heap.size) := by
  obtain ⟨ht, ⟨i, z, hi, hz, hsize, hby, hzs⟩, hsz⟩ := hT
  cases A with
  | none =>
    have hn : news = [] := by
      rcases news with _ | ⟨u, r⟩
      · rfl
      · obtain ⟨b, off, h, _⟩ := hr (by simp); cases h
    subst hn
    have hm : m = 0 := by
      have : m * size = 0 := by simpa using hl.symm
      rcases Nat.mul_eq_zero.1 this with h | h
      · exact h
      · omega
    subst hm
    have hrun : (Builtin.append_ #[t, t] ty #[v, .slice none 0 c]).run P w = .ok v w := by
      rcases hown.2 with ⟨rfl, rfl⟩ | ⟨g, cap, cur, rfl, _, _, hnc, _⟩
      · simp [Builtin.append_, run_underlying ht, sizeOf, typeInfo, hi, Builtin.lenOf, Builtin.firstCells]
      · simp [Builtin.append_, run_underlying ht, sizeOf, typeInfo, hi, Builtin.lenOf, Builtin.firstCells, hnc, storeCells]
    exact ⟨v, w, hrun, by simpa using hown, World.grownBy.refl w _, .inl rfl⟩
  | some ad =>
    have hcells : ∀ j u, news[j]? = some u → w.cell? (ad.add j) = some u := by
      intro j u hu
      obtain ⟨b, off, h, _, hc⟩ := hr (by intro e; subst e; simp at hu)
      simp only [Option.some.injEq] at h
      subst h
      have := hc j u hu
      have he : (⟨b, off, none⟩ : Addr).add j = ⟨b, off + j, none⟩ := by unfold Addr.add; split <;> simp_all
      rw [he]; exact this
    obtain ⟨v', w', hrun, h2, h3, _, h5⟩ := run_append_own_at (P := P) w base t ty e i z size bytes ht hi hz hsize hby hzs hsz v n xs hown ad m c news hl hcells h1 h63 hbytes hbase
    exact ⟨v', w', hrun, h2, h3, h5⟩
theorem wp_app (hT : App P t e size bytes) {o : Oper} {a : Act} {K : Act → World → Prop} {Q : Exit → Act → World → Prop} (s x : Operand)
    (ho : o.op = .call { callee := .builtin .append, args := #[s, x], argTypes := #[t, t] })
    (base : Nat) (v : Value) (n : Nat) (xs : List Value) (hs : a.eval s = v) (hown : w.ownsRow base e size v n xs)
    (B : Nat) (A : Option Addr) (m c : Nat) (news : List Value) (hx : a.eval x = .slice A m c) (hl : news.length = m * size) (hr : Rd w B A news) (h1 : ∀ u ∈ news, u.oneCell' = true)
    (h63 : n + m ≤ maxLen) (hbytes : (n + m) * bytes ≤ 140737488355328) (hbase : base ≤ w.heap.size)
    (h : ∀ v' w', w'.ownsRow base e size v' (n + m) (xs ++ news) → w.grownBy w' v.ownBlock → (v'.ownBlock = v.ownBlock ∨ v'.ownBlock = some w.heap.size) → K (a.put o.dst v') w') : o.wp P a w K Q := by
  obtain ⟨v', w', hrun, h2, h3, h4⟩ := run_app hT o.type base v n xs hown B A m c news hl hr h1 h63 hbytes hbase
  unfold Oper.wp execOp
  simp only [ho, resolve, invoke, builtin, Sem.run_bind, Sem.run_pure, Result.andThen_ok, List.map_toArray, List.map_cons, List.map_nil, hs, hx, hrun]
  exact h v' w' h2 h3 h4
theorem wpl_app (hT : App P t e size bytes) {ops : Array Oper} {rest : List Oper} {o : Oper} {a : Act} {Q : Exit → Act → World → Prop} (hgd : o.guard = none) (s x : Operand)
    (ho : o.op = .call { callee := .builtin .append, args := #[s, x], argTypes := #[t, t] })
    (base : Nat) (v : Value) (n : Nat) (xs : List Value) (hs : a.eval s = v) (hown : w.ownsRow base e size v n xs)
    (B : Nat) (A : Option Addr) (m c : Nat) (news : List Value) (hx : a.eval x = .slice A m c) (hl : news.length = m * size) (hr : Rd w B A news) (h1 : ∀ u ∈ news, u.oneCell' = true)
    (h63 : n + m ≤ maxLen) (hbytes : (n + m) * bytes ≤ 140737488355328) (hbase : base ≤ w.heap.size)
    (h : ∀ v' w', w'.ownsRow base e size v' (n + m) (xs ++ news) → w.grownBy w' v.ownBlock → (v'.ownBlock = v.ownBlock ∨ v'.ownBlock = some w.heap.size) → wpList P ops Q rest (a.put o.dst v') w') : wpList P ops Q (o :: rest) a w :=
  wpList_plain hgd fun _ hK => wp_app hT s x ho base v n xs hs hown B A m c news hx hl hr h1 h63 hbytes hbase fun v' w' h2 h3 h4 => hK _ _ (h v' w' h2 h3 h4)
theorem wpl_app1 (hT : App P t e size bytes) {us : Array Value} {ops : Array Oper} {rest : List Oper} {o : Oper} {a : Act} {Q : Exit → Act → World → Prop} (hgd : o.guard = none) (s x : Operand)
    (ho : o.op = .call { callee := .builtin .append, args := #[s, x], argTypes := #[t, t] })
    (base : Nat) (v : Value) (n : Nat) (xs : List Value) (hs : a.eval s = v) (hown : w.ownsRow base e size v n xs) (hx : a.eval x = .slice (some ⟨w.heap.size, 0, none⟩) 1 1) (hu : us.size = size) (h1 : ∀ u ∈ us.toList, u.oneCell' = true)
    (h63 : n + 1 ≤ maxLen) (hbytes : (n + 1) * bytes ≤ 140737488355328) (hbase : base ≤ w.heap.size)
    (h : ∀ v' w', w'.ownsRow base e size v' (n + 1) (xs ++ us.toList) → w.grownBy w' v.ownBlock → (v'.ownBlock = v.ownBlock ∨ v'.ownBlock = some (w.heap.size + 1)) → wpList P ops Q rest (a.put o.dst v') w') : wpList P ops Q (o :: rest) a (w.alloc (.cells us e)) := by
  refine wpl_app hT hgd s x ho base v n xs hs (hown.alloc _) (w.heap.size + 1) _ 1 1 us.toList hx (by simp [hu]) ?_ h1 h63 hbytes (by simp; omega) ?_
  · intro _
    refine ⟨w.heap.size, 0, rfl, by omega, fun j u hj => ?_⟩
    have hh : (w.alloc (.cells us e)).heap[w.heap.size]? = some (.cells us e) := heap_alloc_new w _
    unfold World.cell?
    simp only [hh, Nat.zero_add]
    simpa using hj
  · intro v' w' h2 h3 h4
    refine h v' w' h2 ⟨h3.os, h3.tape, h3.output, Nat.le_trans (by simp) h3.size, fun k hk hne => ?_⟩ ?_
    · rw [h3.block k (by simp; omega) hne, Below.heap_alloc w _ k hk]
    · rcases h4 with h | h
      · exact .inl h
      · right; rw [h]; simp
end
theorem Rd.of_own {w : World} {base e size n : Nat} {v : Value} {xs : List Value} (h : w.ownsRow base e size v n xs) : ∃ A c, v = .slice A n c ∧ n ≤ c ∧ c ≤ maxLen ∧ Rd w w.heap.size A xs ∧ (∀ b, A.map (·.block) = some b → base ≤ b) := by
  rcases h.2 with ⟨rfl, rfl⟩ | ⟨g, cap, cur, rfl, hb, hh, hnc, hm, hs, hx⟩
  · have hx : xs = [] := List.eq_nil_of_length_eq_zero (by simpa using h.1)
    subst hx
    exact ⟨none, 0, rfl, Nat.le_refl _, Nat.zero_le _, Rd.nil, fun b hb => by simp at hb⟩
  · refine ⟨some ⟨g, 0, none⟩, cap, rfl, hnc, hm, fun _ => ?_, fun b hb' => by simp at hb'; omega⟩
    have hg : g < w.heap.size := by
      rcases Nat.lt_or_ge g w.heap.size with h | h
      · exact h
      · rw [Array.getElem?_eq_none h] at hh; cases hh
    refine ⟨g, 0, rfl, hg, fun j u hj => ?_⟩
    have := h.cells (g := g) rfl j u hj
    have he : (⟨g, 0, none⟩ : Addr).add j = ⟨g, 0 + j, none⟩ := by unfold Addr.add; split <;> simp_all
    rw [← he]; exact this
theorem ints_one (k : IntKind) (zs : List Int) : ∀ u ∈ zs.map (Value.int k), u.oneCell' = true := ints_oneCell k zs
theorem one_int (k : IntKind) (z : Int) : ∀ u ∈ (#[Value.int k z] : Array Value).toList, u.oneCell' = true := by
  intro u hu; simp at hu; subst hu; rfl
theorem below_drewN {B : Nat} {a w : World} (h : Below B a w) (n : Nat) : Below B a (w.drewN n) := ⟨h.os, h.tape, h.output, h.size, h.block⟩
end Go.Proofs.YtloldofjddbjoaaGreat
namespace Go.Proofs.YtloldofjddbjoaaGreat
open Go.RowKit
theorem ret_bool {a b : Bool} (h : a = b) : Ending.returned (.bool a) = .returned (.bool b) := by rw [h]
theorem may_yes (n : Int) (w : World) (h1 : 1 ≤ n) (h2 : n ≤ 8) : Calls Tryz.prog 298 #[.int .i64 n] w fun e w' => e = .returned (.bool true) ∧ w = w' := by
  go_enter Tryz.func298, Tryz.ntmps298
  go_wp2
  go_ret
  exact ⟨rfl, rfl⟩
theorem num_yes (B : Nat) (A : Option Addr) (c : Nat) (zs : List Int) (at_ k : Nat) (w : World) (hrd : Rd w B A (zs.map (.int .u8))) (hz : ∀ z ∈ zs, 0 ≤ z ∧ z < 256) (hl : zs.length ≤ 65536) (h1 : 1 ≤ k) (h2 : k ≤ 8) (h4 : at_ + k ≤ zs.length) :
    Calls Tryz.prog 300 #[.slice A zs.length c, .int .i64 at_, .int .i64 k] w fun e w' => e = .returned (.tuple #[.int .u64 (num ((zs.drop at_).take k)), .bool true]) ∧ w = w' := by
  obtain ⟨b, off, rfl, hB, hc⟩ := hrd (by intro e; simp at e; subst e; simp at h4; omega)
  have hd : decide ((zs.length : Int) - k < at_) = false := by simp; omega
  have HZ := Lib.hid hz
  have HC := Lib.hid hc
  clear hz hc hrd
  go_enter Tryz.func300, Tryz.ntmps300
  go_wp2_with (go_at_call 298; refine (may_yes _ _ (by omega) (by omega)).mono ?_; rintro e w' ⟨rfl, rfl⟩)
  go_loop [8, 9] (fun n i => ∃ j : Nat, j ≤ k ∧ i = .int .i64 ((j : Int) - 1) ∧ n = .int .u64 (num ((zs.drop (at_ + j)).take (k - j)))) (fun _ i => (intOf i + 1).toNat)
  case atStart => exact ⟨k, Nat.le_refl _, rfl, by simp [num]⟩
  case round =>
    obtain ⟨j, hj, rfl, rfl⟩ := hrel
    by_cases h0 : j = 0
    · subst h0
      go_wp2
      go_ret2
      exact ⟨by simp, rfl⟩
    · obtain ⟨i, rfl⟩ : ∃ i, j = i + 1 := ⟨j - 1, by omega⟩
      have hcell := HC.out (at_ + i) (.int .u8 (zs[at_ + i]?.getD 0)) (by rw [List.getElem?_map, List.getElem?_eq_getElem (by omega)]; rfl)
      have hst := Lib.hid (num_step zs (at_ + i) (k - (i + 1)) (by omega))
      have hp := num_part zs (at_ + i + 1) (k - (i + 1)) HZ.out (by omega)
      have hby := byte_of HZ.out (at_ + i)
      go_wp2
      refine ⟨⟨i, by omega, rfl, ?_⟩, by simp [intOf]⟩
      rw [show at_ + (i + 1) = at_ + i + 1 from by omega, or_byte _ _ hp.1 hp.2 hby.1 hby.2, ← hst.out, show k - (i + 1) + 1 = k - i from by omega]
theorem app22 : App Tryz.prog 23 5 1 1 := app_mk (z := .int .u8 0) Tryz.underlying23 (by kernel_rfl) rfl (by decide)
def Out (B : Nat) (w : World) (e : TypeId) (n : Nat) (xs : List Value) (en : Ending) (w' : World) : Prop := ∃ v, en = .returned v ∧ w'.ownsRow B e 1 v n xs ∧ Below w.heap.size w w'
theorem shr8 (n : Int) (j : Nat) : n / 256 ^ j / 256 = n / 256 ^ (j + 1) := by
  rw [Int.pow_succ, Int.ediv_ediv_of_nonneg (Int.le_of_lt (Int.pow_pos (by decide)))]
theorem rel_put {B j : Nat} {zs : List Int} {n : Int} {w wr w1 : World} {u v : Value} (hB : B ≤ wr.heap.size) (hb : Below B w wr) (hown : wr.ownsRow B 5 1 u (zs.length + j) ((zs ++ le n j).map (.int .u8)))
    (h2 : w1.ownsRow B 5 1 v (zs.length + j + 1) ((zs ++ le n j).map (.int .u8) ++ #[Value.int .u8 (n / 256 ^ j % 256)].toList)) (hg : wr.grownBy w1 u.ownBlock) :
    w1.ownsRow B 5 1 v (zs.length + (j + 1)) ((zs ++ le n (j + 1)).map (.int .u8)) ∧ Below B w w1 := by
  refine ⟨?_, hb.grown hg hB (fun k hk => (hown.lt k hk).1)⟩
  rw [le_snoc, ← List.append_assoc, List.map_append, ← Nat.add_assoc]
  exact h2
theorem put_yes (B : Nat) (A : Option Addr) (c : Nat) (zs : List Int) (n : Int) (k : Nat) (w : World) (hrd : Rd w B A (zs.map (.int .u8))) (hl : zs.length ≤ 65536) (h1 : 1 ≤ k) (h2 : k ≤ 8) (hn : 0 ≤ n) :
    Calls Tryz.prog 274 #[.slice A zs.length c, .int .u64 n, .int .i64 k] w (Out w.heap.size w 5 (zs.length + k) ((zs ++ le n k).map (.int .u8))) := by
  go_enter Tryz.func274, Tryz.ntmps274
  go_wp2_with (first
    | (at_builtin; refine wpl_app app22 rfl _ _ rfl w.heap.size (.slice none 0 0) 0 [] rfl (World.ownsRow_nil _ _ _ _) B A zs.length c _ rfl (by simp) hrd (ints_one _ _) (by unfold maxLen; omega) (by omega) (Nat.le_refl _) ?_; intro v1 w1 hown1 hg1 hat1)
    | (go_at_call 298; refine (may_yes _ _ (by omega) (by omega)).mono ?_; rintro e w' ⟨rfl, rfl⟩))
  have hb1 : Below w.heap.size w w1 := (Below.refl _ _).grown hg1 (Nat.le_refl _) (fun k hk => by simp [Value.ownBlock] at hk)
  simp only [Nat.zero_add, List.nil_append] at hown1
  clear hg1 hat1 hrd
  go_loopw [1, 7, 15] (fun m v i wr => ∃ j : Nat, j ≤ k ∧ i = .int .i64 j ∧ m = .int .u64 (n / 256 ^ j) ∧ wr.ownsRow w.heap.size 5 1 v (zs.length + j) ((zs ++ le n j).map (.int .u8)) ∧ Below w.heap.size w wr) (fun _ _ i _ => k - (intOf i).toNat)
  case atStart => exact ⟨0, Nat.zero_le _, rfl, by simp, by simpa [le] using hown1, hb1⟩
  case round =>
    obtain ⟨j, hj, rfl, rfl, hown, hb⟩ := hrel
    clear hown1 hb1
    by_cases hlt : j < k
    · have H8 := Lib.hid (shr8 n j)
      have h0 : 0 ≤ n / 256 ^ j := Int.ediv_nonneg hn (Int.le_of_lt (Int.pow_pos (by decide)))
      have hsz := hb.size
      go_wp2_with (first | (at_builtin; go_must (refine wpl_app1 app22 rfl _ _ rfl w.heap.size _ (zs.length + j) _ rfl hown rfl rfl (one_int _ _) (by unfold maxLen; omega) (by omega) hsz ?_); intro v2 w2 hown2 hg2 hat2))
      have R := rel_put (w := w) hsz hb hown hown2 hg2
      clear hown2 hg2 hat2 hown hb
      go_wp2
      go_roundw
      case rel => exact ⟨j + 1, by omega, by go_num, by rw [H8.out], R.1, R.2⟩
      case measure => simp [intOf]; omega
    · have : j = k := by omega
      subst this
      go_wp2
      go_ret
      exact ⟨_, rfl, hown, hb⟩
def litOf : Value → Lit
  | .int k n => .int k n
  | .bool b => .bool b
  | .string s => .string s.data.toList
  | _ => .bool false
theorem Sc.lit_inj {k : Sc} {u v : Value} (hu : k.ok u) (hv : k.ok v) (h : litOf u = litOf v) : u = v := by
  cases k with
  | i k => obtain ⟨z, rfl, _⟩ := hu; obtain ⟨y, rfl, _⟩ := hv; simp only [litOf, Lit.int.injEq] at h; rw [h.2]
  | b => obtain ⟨z, rfl⟩ := hu; obtain ⟨y, rfl⟩ := hv; simp only [litOf, Lit.bool.injEq] at h; rw [h]
  | s =>
    obtain ⟨z, rfl, _⟩ := hu
    obtain ⟨y, rfl, _⟩ := hv
    simp only [litOf, Lit.string.injEq] at h
    obtain ⟨⟨z⟩⟩ := z
    obtain ⟨⟨y⟩⟩ := y
    simp only at h
    rw [h]
theorem Kinds.lits_inj {ks : List Sc} {xs ys : List Value} (hx : Kinds ks xs) (hy : Kinds ks ys) (h : xs.map litOf = ys.map litOf) : xs = ys := by
  apply List.ext_getElem?
  intro i
  by_cases hi : i < ks.length
  · have h1 : i < xs.length := by rw [hx.1]; exact hi
    have h2 : i < ys.length := by rw [hy.1]; exact hi
    rw [List.getElem?_eq_getElem h1, List.getElem?_eq_getElem h2]
    congr 1
    refine Sc.lit_inj (hx.2 i ks[i] _ (List.getElem?_eq_getElem hi) (List.getElem?_eq_getElem h1)) (hy.2 i ks[i] _ (List.getElem?_eq_getElem hi) (List.getElem?_eq_getElem h2)) ?_
    have := congrArg (fun l => l[i]?) h
    simpa [List.getElem?_eq_getElem h1, List.getElem?_eq_getElem h2] using this
  · rw [List.getElem?_eq_none (by rw [hx.1]; omega), List.getElem?_eq_none (by rw [hy.1]; omega)]
theorem Kinds.part {a b : List Sc} {cs : List Value} (h : Kinds (a ++ b) cs) : Kinds a (cs.take a.length) ∧ Kinds b (cs.drop a.length) := by
  obtain ⟨hl, hk⟩ := h
  rw [List.length_append] at hl
  refine ⟨⟨by rw [List.length_take]; omega, fun j k v h1 h2 => ?_⟩, ⟨by rw [List.length_drop]; omega, fun j k v h1 h2 => ?_⟩⟩
  · have hj := (List.getElem?_eq_some_iff.1 h1).1
    rw [List.getElem?_take, if_pos hj] at h2
    exact hk j k v (by rw [List.getElem?_append_left hj]; exact h1) h2
  · rw [List.getElem?_drop] at h2
    exact hk (a.length + j) k v (by rw [List.getElem?_append_right (by omega)]; rw [show a.length + j - a.length = j from by omega]; exact h1) h2
section
variable {P : Program}
theorem one_of {k : Sc} {cs : List Value} (h : Kinds [k] cs) : ∃ v, cs = [v] ∧ k.ok v := by
  match cs, h.1 with
  | [v], _ => exact ⟨v, rfl, h.2 0 k v rfl rfl⟩
theorem flatFields_pre (fl : TypeId → Option (List Sc)) (fs : List Field) : ∀ (acc l : List Sc), flatFields P fl fs acc = some l → ∃ b, l = acc ++ b := by
  induction fs with
  | nil => intro acc l h; simp only [flatFields, Option.some.injEq] at h; exact ⟨[], by simp [h]⟩
  | cons g gs ih =>
    intro acc l h
    simp only [flatFields] at h
    cases hg : fl g.type with
    | none => rw [hg] at h; simp at h
    | some l2 =>
      rw [hg] at h
      simp only at h
      by_cases hc2 : g.offset = acc.length ∧ P.cellsOf g.type = l2.length
      · rw [if_pos hc2] at h
        obtain ⟨b, hb⟩ := ih (acc ++ l2) l h
        exact ⟨l2 ++ b, by rw [hb]; simp [List.append_assoc]⟩
      · rw [if_neg hc2] at h; simp at h
theorem fields_lits (n D : Nat) (ih : ∀ (t : TypeId) (l : List Sc), flat P n t = some l → P.keyTypeAt n t = true → ∀ cs, Kinds l cs → P.keyLits D t cs = some (cs.map litOf))
    (cs : List Value) (fs : List Field) : ∀ (acc l : List Sc), flatFields P (flat P n) fs acc = some l → (∀ f ∈ fs, P.keyTypeAt n f.type = true) → Kinds l (cs.take l.length) →
    ∃ lss : List (List Lit), fs.mapM (fun f => P.keyLits D f.type ((cs.drop f.offset).take (P.cellsOf f.type))) = some lss ∧ lss.flatten = ((cs.take l.length).drop acc.length).map litOf ∧ acc.length ≤ l.length := by
  induction fs with
  | nil =>
    intro acc l h _ _
    simp only [flatFields, Option.some.injEq] at h
    subst h
    exact ⟨[], rfl, by simp, Nat.le_refl _⟩
  | cons f fs IH =>
    intro acc l h hk hcs
    simp only [flatFields] at h
    cases hfl : flat P n f.type with
    | none => rw [hfl] at h; simp at h
    | some l1 =>
      rw [hfl] at h
      simp only at h
      by_cases hc : f.offset = acc.length ∧ P.cellsOf f.type = l1.length
      · rw [if_pos hc] at h
        obtain ⟨lss, h1, h2, h3⟩ := IH (acc ++ l1) l h (fun g hg => hk g (by simp [hg])) hcs
        rw [List.length_append] at h2 h3
        have hsub : Kinds l1 ((cs.drop acc.length).take l1.length) := by
          obtain ⟨b, rfl⟩ := flatFields_pre (P := P) (flat P n) fs (acc ++ l1) l h
          have := (hcs.part).1
          have := (this.part).2
          rw [List.take_take, List.drop_take, List.length_append] at this
          rw [show min (acc.length + l1.length) ((acc ++ l1 ++ b).length) - acc.length = l1.length from by simp] at this
          exact this
        have hl := ih f.type l1 hfl (hk f (by simp)) _ hsub
        refine ⟨(((cs.drop acc.length).take l1.length).map litOf) :: lss, ?_, ?_, by omega⟩
        · rw [List.mapM_cons, hc.1, hc.2, hl, h1]; rfl
        · rw [List.flatten_cons, h2, ← List.map_append]
          congr 1
          rw [show (cs.take l.length).drop (acc.length + l1.length) = (((cs.take l.length).drop acc.length).drop l1.length) from by rw [List.drop_drop]]
          rw [show (cs.drop acc.length).take l1.length = ((cs.take l.length).drop acc.length).take l1.length from by rw [List.drop_take, List.take_take]; congr 1; omega]
          exact List.take_append_drop _ _
      · rw [if_neg hc] at h; simp at h
theorem items_lits {D : Nat} {e : TypeId} {l1 : List Sc} (hce : P.cellsOf e = l1.length) (ih : ∀ cs, Kinds l1 cs → P.keyLits D e cs = some (cs.map litOf)) (m : Nat) : ∀ (k : Nat) (cs : List Value), Kinds (List.replicate m l1).flatten (cs.drop (k * l1.length)) →
    ∃ lss : List (List Lit), (List.range' k m).mapM (fun i => P.keyLits D e ((cs.drop (i * P.cellsOf e)).take (P.cellsOf e))) = some lss ∧ lss.flatten = (cs.drop (k * l1.length)).map litOf := by
  induction m with
  | zero =>
    intro k cs h
    have : cs.drop (k * l1.length) = [] := List.eq_nil_of_length_eq_zero (by simpa using h.1)
    exact ⟨[], rfl, by rw [this]; rfl⟩
  | succ m IH =>
    intro k cs h
    rw [List.replicate_succ, List.flatten_cons] at h
    obtain ⟨h1, h2⟩ := h.part
    rw [List.drop_drop, show k * l1.length + l1.length = (k + 1) * l1.length from by rw [Nat.add_mul]; omega] at h2
    obtain ⟨lss, e1, e2⟩ := IH (k + 1) cs h2
    have hl := ih _ h1
    refine ⟨((cs.drop (k * l1.length)).take l1.length).map litOf :: lss, ?_, ?_⟩
    · rw [List.range'_succ, List.mapM_cons, hce, hl]
      rw [hce] at e1
      rw [e1]; rfl
    · rw [List.flatten_cons, e2, ← List.map_append]
      congr 1
      rw [show (k + 1) * l1.length = k * l1.length + l1.length from by rw [Nat.add_mul]; omega, ← List.drop_drop]
      exact List.take_append_drop _ _
theorem flat_lits (n : Nat) : ∀ (t : TypeId) (l : List Sc), flat P n t = some l → P.keyTypeAt n t = true → ∀ cs, Kinds l cs → P.keyLits n t cs = some (cs.map litOf) := by
  induction n with
  | zero => intro t l h; simp [flat] at h
  | succ n ih =>
    intro t l h hk cs hcs
    unfold flat at h
    unfold Program.keyLits
    unfold Program.keyTypeAt at hk
    split at h
    · rename_i hu
      simp only [Option.some.injEq] at h
      subst h
      obtain ⟨v, rfl, b, rfl⟩ := one_of hcs
      rw [hu]; rfl
    · rename_i k hu
      simp only [Option.some.injEq] at h
      subst h
      obtain ⟨v, rfl, z, rfl, hz⟩ := one_of hcs
      rw [hu]
      simp [hz, litOf]
    · rename_i hu
      simp only [Option.some.injEq] at h
      subst h
      obtain ⟨v, rfl, z, rfl, hz⟩ := one_of hcs
      rw [hu]
      simp [hz, litOf]
    · rename_i fs hu
      rw [hu] at hk
      simp only at hk
      cases hff : flatFields P (flat P n) fs.toList [] with
      | none => rw [hff] at h; simp at h
      | some l1 =>
        rw [hff] at h
        simp only at h
        by_cases hc : P.cellsOf t = l1.length
        · rw [if_pos hc] at h
          simp only [Option.some.injEq] at h
          subst h
          simp only [Bool.and_eq_true, Array.all_eq_true', bne_iff_ne, ne_eq] at hk
          obtain ⟨⟨hk1, _⟩, _⟩ := hk
          have hk2 : ∀ f ∈ fs.toList, P.keyTypeAt n f.type = true := fun f hf => (hk1 f (by simpa using hf)).2
          have hcs' : cs.take l1.length = cs := List.take_of_length_le (by rw [hcs.1]; exact Nat.le_refl _)
          obtain ⟨lss, h1, h2, _⟩ := fields_lits n n ih cs fs.toList [] l1 hff hk2 (by rw [hcs']; exact hcs)
          have hnames : fs.all (fun x => x.name != "_") = true := by
            rw [Array.all_eq_true']
            intro f hf
            simpa using (hk1 f hf).1
          rw [hu]
          simp only [hc, hcs.1, hnames, and_self, if_true, h1, Option.map_some]
          rw [h2, hcs']
          rfl
        · rw [if_neg hc] at h; simp at h
    · rename_i m e hu
      rw [hu] at hk
      simp only at hk
      cases hfe : flat P n e with
      | none => rw [hfe] at h; simp at h
      | some l1 =>
        rw [hfe] at h
        simp only at h
        by_cases hc : P.cellsOf e = l1.length ∧ P.cellsOf t = m * l1.length ∧ 0 < l1.length
        · rw [if_pos hc] at h
          simp only [Option.some.injEq] at h
          subst h
          obtain ⟨lss, h1, h2⟩ := items_lits hc.1 (ih e l1 hfe hk) m 0 cs (by simpa using hcs)
          rw [hu]
          have hlen : cs.length = P.cellsOf t := by rw [hcs.1, hc.2.1]; simp
          simp only [hlen, if_true]
          rw [List.range_eq_range', h1]
          simp only [Option.map_some, h2]
          simp
        · rw [if_neg hc] at h; simp at h
    · simp at h
theorem run_equal_flat {w : World} {n : Nat} {t : TypeId} {ks : List Sc} {xs ys : Array Value} (hf : flat P n t = some ks) (hk : P.keyTypeAt n t = true) (hd : n ≤ 10000) (hc : P.cellsOf t = ks.length)
    (ha : (match P.underlying t with | some (.struct _) | some (.array _ _) => true | _ => false) = true) (hx : Kinds ks xs.toList) (hy : Kinds ks ys.toList) :
    ∃ r : Bool, (Op.equalIn 10000 t (.agg xs) (.agg ys)).run P w = .ok r w ∧ (r = true ↔ xs = ys) := by
  have H := run_equalIn_deep (P := P) (10000 - n) n t hk
  rw [show 10000 - n + n = 10000 from by omega] at H
  have fx : ∀ zs : Array Value, Kinds ks zs.toList → (Value.agg zs).formed P t = true := by
    intro zs hz
    have hs : zs.size = P.cellsOf t := by rw [hc, ← hz.1]; simp
    unfold Value.formed
    split at ha
    · rename_i hu; simp [hu, hs]
    · rename_i hu; simp [hu, hs]
    · simp at ha
  obtain ⟨r, h1, h2⟩ := H w n n (.agg xs) (.agg ys) _ _ (fx xs hx) (fx ys hy) (flat_lits n t ks hf hk _ hx) (flat_lits n t ks hf hk _ hy)
  refine ⟨r, h1, h2.trans ⟨fun h => ?_, fun h => by rw [h]⟩⟩
  have := hx.lits_inj hy h
  exact Array.ext' this
end
def otherRow (P : Program) (t : TypeId) (w : World) (a : Addr) : Result Value := (loadVar t a).run P w
def rowOf (P : Program) (t : TypeId) (size : Nat) (w : World) (a : Addr) : Result Value :=
  match w.heap[a.block]? with
  | some (.cells cs _ _) => if a.off = 0 ∧ a.spot = none ∧ cs.size = size then .ok (.agg cs) w else otherRow P t w a
  | _ => otherRow P t w a
theorem run_loadVar_flat {P : Program} {t : TypeId} {d : TypeDesc} {size : Nat} (hu : P.underlying t = some d) (hd : (match d with | .struct _ | .array _ _ => true | _ => false) = true) (hi : (P.info? t).map (·.size) = some size) (w : World) (a : Addr) :
    (loadVar t a).run P w = rowOf P t size w a := by
  unfold rowOf
  split
  · rename_i cs e fr h
    split
    · rename_i hc
      obtain ⟨b, off, spot⟩ := a
      obtain ⟨h1, h2, h3⟩ := hc
      simp only at h1 h2
      subst h1 h2
      exact run_loadVar_row w b e t cs fr d h hu hd (by rw [h3]; exact hi)
    · rfl
  · rfl
def loadOf (P : Program) (t : TypeId) (size : Nat) (w : World) : Value → Result Next
  | .pointer (some a) => (rowOf P t size w a).andThen fun v w' => .ok (.value v) w'
  | v => (Instr.loadAt t v).run P w |>.andThen fun v w' => .ok (.value v) w'
theorem exec_load_flat {P : Program} {t : TypeId} {d : TypeDesc} {size : Nat} (hu : P.underlying t = some d) (hd : (match d with | .struct _ | .array _ _ => true | _ => false) = true) (hi : (P.info? t).map (·.size) = some size) (w : World)
    (ρ : Operand → Value) (o : Oper) (x : Operand) (ho : o.op = .load t x) : (execOp ρ o).run P w = loadOf P t size w (ρ x) := by
  have e : (execOp ρ o).run P w = ((Instr.loadAt t (ρ x)).run P w).andThen fun v w' => .ok (.value v) w' := by
    simp only [execOp, ho, Sem.run_bind, Sem.run_pure]
  rw [e]
  generalize ρ x = v
  unfold loadOf
  split
  · simp only [Instr.loadAt, Instr.sureAddr, Sem.run_bind, Sem.run_pure, Result.andThen_ok, run_loadVar_flat hu hd hi]
  · rfl
end Go.Proofs.YtloldofjddbjoaaGreat
namespace Go.Proofs.YtloldofjddbjoaaGreat
open Go.RowKit
def val (n : Int) (bs : List Int) : Array Value := (Value.int .i64 n :: bs.map (Value.int .u8)).toArray
def pad (zs : List Int) (n : Nat) : List Int := zs ++ List.replicate (n - zs.length) 0
theorem pad_length (zs : List Int) (n : Nat) (h : zs.length ≤ n) : (pad zs n).length = n := by simp [pad]; omega
theorem val_size (n : Int) (bs : List Int) (h : bs.length = 16) : (val n bs).size = 17 := by simp [val, h]
theorem val_one (n : Int) (bs : List Int) : ∀ u ∈ (val n bs).toList, u.oneCell' = true := by
  intro u hu
  simp only [val, List.mem_cons, List.mem_map] at hu
  rcases hu with rfl | ⟨z, _, rfl⟩ <;> rfl
theorem size24 : (Tryz.prog.info? 56).map (·.size) = some 17 := by kernel_rfl
theorem size5 : (Tryz.prog.info? 5).map (·.size) = some 1 := by kernel_rfl
def Gives2 (w : World) (v : Value) (e : Ending) (w' : World) : Prop := e = .returned v ∧ Below w.heap.size w w'
theorem splice_val (zs : List Int) (n : Int) (hl : zs.length ≤ 16) : (splice ((Value.int .i64 n) :: List.replicate 16 (Value.int .u8 0)) 1 (zs.map (Value.int .u8))).toArray = val n (pad zs 16) := by
  unfold splice val pad
  congr 1
  simp only [List.take_succ_cons, List.take_zero, List.length_map, List.cons_append, List.nil_append, List.map_append, List.map_replicate]
  rw [show 1 + zs.length = zs.length + 1 from by omega, List.drop_succ_cons, List.drop_replicate]
theorem min_len (zs : List Int) (n : Nat) (hl : zs.length ≤ n) : (zs.map (Value.int .u8)).length = Nat.min zs.length n := by rw [List.length_map]; exact (Nat.min_eq_left hl).symm
theorem pos_src {w : World} {B : Nat} {A : Option Addr} {xs : List Value} (h : Rd w B A xs) : 0 < xs.length → ∃ ad, A = some ad ∧ ∀ j v, xs[j]? = some v → w.cell? (ad.add j) = some v := by
  intro hp
  obtain ⟨b, off, rfl, _, hc⟩ := h (by intro e; subst e; simp at hp)
  refine ⟨_, rfl, fun j v hj => ?_⟩
  have he : (⟨b, off, none⟩ : Addr).add j = ⟨b, off + j, none⟩ := by unfold Addr.add; split <;> simp_all
  rw [he]; exact hc j v hj
theorem all_one {cs : Array Value} (h : ∀ u ∈ cs.toList, u.oneCell' = true) : cs.all (·.oneCell') = true := by
  rw [Array.all_eq_true_iff_forall_mem]; exact fun v hv => h v (by simpa using hv)
set_option maxHeartbeats 400000 in
theorem of_any (B : Nat) (A : Option Addr) (c : Nat) (zs : List Int) (w : World) (hrd : Rd w B A (zs.map (.int .u8))) (hB : B ≤ w.heap.size) (hl : zs.length ≤ 16) :
    Calls Tryz.prog 187 #[.slice A zs.length c] w (Gives2 w (.agg (val zs.length (pad zs 16)))) := by
  have HD := Lib.hid hrd
  have HS := Lib.hid (splice_val zs zs.length hl)
  have hsz := Lib.hid (val_size zs.length (pad zs 16) (pad_length zs 16 hl))
  clear hrd
  go_enter Tryz.func187, Tryz.ntmps187
  go_wp2_with (first
    | (refine wpList_copy_splice rfl (.tmp 8) (.tmp 9) 23 23 rfl 5 Tryz.underlying23 size5 _ _ 16 16 zs.length c rfl rfl (w.heap.size + 1) 1 (Value.int .i64 zs.length :: List.replicate 16 (Value.int .u8 0)) 56 (heap_alloc2_new w _ _) (zs.map (Value.int .u8)) (min_len zs 16 hl) (fun h => ⟨rfl, pos_src ((HD.out.alloc hB _).alloc (Nat.le_trans hB (by simp)) _) h⟩) (by simp; omega) (ints_one _ _) (w.heap.size + 1) _ (Below.refl _ _) (Nat.le_refl _) ?_; intro w1 hh hb; rw [HS.out] at hh)
    | (refine wpList_load_row rfl 56 (.tmp 3) rfl (w.heap.size + 1) rfl 56 _ (0, 0) _ hh.out Tryz.underlying56 rfl (by rw [hsz.out]; exact size24) ?_)
    | (refine wpList_store_row rfl 56 (.tmp 2) (.tmp 11) rfl w.heap.size _ rfl rfl 56 _ ((hb.block w.heap.size (by omega)).trans (heap_alloc2_old w _ _)) (by rw [hsz.out]; exact size24) (by rw [hsz.out]; rfl) (all_one (val_one _ _)) ?_))
  have hz := (hb.block w.heap.size (by omega)).trans (heap_alloc2_old w _ _)
  refine bodyPost_ret (results_cell_row rfl _ _ w.heap.size 56 _ (0, 0) _ rfl (setRow_heap _ _ _ _ _ _ hz) Tryz.underlying56 rfl (by rw [hsz.out]; exact size24)) rfl ⟨rfl, ?_⟩
  exact below_setRow ((((Below.refl _ _).alloc (Nat.le_refl _) _).alloc (by simp) _).trans (hb.mono (by simp))) (Nat.le_refl _) _
theorem val_0 (n : Int) (bs : List Int) : (val n bs)[0]? = some (.int .i64 n) := by simp [val]
set_option maxHeartbeats 400000 in
theorem check_lo (n : Int) (bs : List Int) (w : World) (h : n < 0) :
    Calls Tryz.prog 316 #[.agg (val n bs)] w (Gives2 w (.bool false)) := by
  have v0 := val_0 n bs
  have hd : decide (0 ≤ n) = false := by simp; omega
  clear h
  go_enter Tryz.func316, Tryz.ntmps316
  go_wp2
  go_quiet (fail)
  go_wp2
  go_ret
  exact ⟨rfl, below_drewN ((Below.refl _ _).alloc (Nat.le_refl _) _) _⟩
set_option maxHeartbeats 400000 in
theorem check_hi (n : Int) (bs : List Int) (w : World) (h0 : 0 ≤ n) (h : 16 < n) :
    Calls Tryz.prog 316 #[.agg (val n bs)] w (Gives2 w (.bool false)) := by
  have v0 := val_0 n bs
  have hd : decide (n ≤ 16) = false := by simp; omega
  clear h
  go_enter Tryz.func316, Tryz.ntmps316
  go_wp2
  go_quiet (fail)
  go_wp2
  go_ret
  exact ⟨rfl, below_drewN ((Below.refl _ _).alloc (Nat.le_refl _) _) _⟩
theorem Rd.val_take {W : World} {g : Nat} {t : TypeId} {n : Int} {bs : List Int} (k : Nat) (h : W.heap[g]? = some (.cells (val n bs) t (0, 0))) : Rd W (g + 1) (some ⟨g, 1, none⟩) ((bs.take k).map (.int .u8)) := by
  intro _
  refine ⟨g, 1, rfl, by omega, fun j u hu => ?_⟩
  rw [cell_of_row W g (1 + j) _ t (0, 0) h]
  rw [List.getElem?_map, List.getElem?_take] at hu
  split at hu
  · simp only [val, List.getElem?_toArray, Nat.add_comm 1 j, List.getElem?_cons_succ, List.getElem?_map]
    exact hu
  · simp at hu
theorem of_take {W : World} {g : Nat} {t : TypeId} {n : Int} {bs : List Int} (k c : Nat) (hk : k ≤ 16) (hb : bs.length = 16) (hg : g < W.heap.size) (h : W.heap[g]? = some (.cells (val n bs) t (0, 0))) :
    Calls Tryz.prog 187 #[.slice (some ⟨g, 1, none⟩) k c] W (Gives2 W (.agg (val k (pad (bs.take k) 16)))) := by
  have hl : (bs.take k).length = k := by rw [List.length_take]; omega
  have C := of_any (g + 1) (some ⟨g, 1, none⟩) c (bs.take k) W (Rd.val_take k h) (by omega) (by omega)
  rw [hl] at C
  exact C
theorem load24 (w : World) (ρ : Operand → Value) (d : Option Tmp) (x : Operand) (ty : TypeId) (pos : String) (af : Array Edge) (gd : Option (Nat × Bool)) :
    (execOp ρ { dst := d, op := .load 56 x, type := ty, pos := pos, after := af, guard := gd }).run Tryz.prog w = loadOf Tryz.prog 56 17 w (ρ x) := exec_load_flat Tryz.underlying56 rfl size24 w ρ _ x rfl
attribute [local go_sem ↓] load24
attribute [local go_sem] rowOf loadOf
theorem kinds_val (n : Int) (bs : List Int) (hn : (Lit.int .i64 n).wf = true) (hb : bs.length = 16) (hw : ∀ b ∈ bs, (Lit.int .u8 b).wf = true) : Kinds (Sc.i .i64 :: List.replicate 16 (Sc.i .u8)) (val n bs).toList := by
  refine ⟨by simp [val, hb], fun j k v h1 h2 => ?_⟩
  cases j with
  | zero => simp [val] at h1 h2; subst h1 h2; exact ⟨n, rfl, hn⟩
  | succ j =>
    simp only [List.getElem?_cons_succ, List.getElem?_replicate] at h1
    split at h1
    · simp only [Option.some.injEq] at h1
      subst h1
      simp only [val, List.getElem?_cons_succ, List.getElem?_map, Option.map_eq_some_iff] at h2
      obtain ⟨z, hz, rfl⟩ := h2
      exact ⟨z, rfl, hw z (List.mem_of_getElem? hz)⟩
    · simp at h1
theorem map_int_inj (cs : List Int) : ∀ bs : List Int, cs.map (Value.int .u8) = bs.map (Value.int .u8) → cs = bs := by
  induction cs with
  | nil => intro bs h; cases bs with
    | nil => rfl
    | cons b bs => simp at h
  | cons a cs ih => intro bs h; cases bs with
    | nil => simp at h
    | cons b bs =>
      simp only [List.map_cons, List.cons.injEq, Value.int.injEq, true_and] at h
      rw [h.1, ih bs h.2]
theorem val_inj {n m : Int} {cs bs : List Int} (h : val n cs = val m bs) : n = m ∧ cs = bs := by
  unfold val at h
  have h := congrArg Array.toList h
  simp only [List.cons.injEq, Value.int.injEq, true_and] at h
  exact ⟨h.1, map_int_inj cs bs h.2⟩
set_option maxRecDepth 100000 in
/-- Two values, held against each other. -/
theorem eq_val (n m : Int) (cs bs : List Int) (hn : (Lit.int .i64 n).wf = true) (hm : (Lit.int .i64 m).wf = true) (ha : cs.length = 16) (hb : bs.length = 16) (wa : ∀ b ∈ cs, (Lit.int .u8 b).wf = true) (wb : ∀ b ∈ bs, (Lit.int .u8 b).wf = true) (W : World) :
    (Op.equalIn 10000 56 (.agg (val n cs)) (.agg (val m bs))).run Tryz.prog W = .ok (decide (n = m ∧ cs = bs)) W := by
  obtain ⟨r, h1, h2⟩ := run_equal_flat (P := Tryz.prog) (w := W) (n := 3) (t := 56) (by kernel_rfl) (by kernel_rfl) (by decide) (by kernel_rfl) (by kernel_rfl) (kinds_val n cs hn ha wa) (kinds_val m bs hm hb wb)
  rw [h1]
  congr 1
  rw [Bool.eq_iff_iff, h2]
  simp only [decide_eq_true_eq]
  exact ⟨fun h => val_inj h, fun h => by rw [h.1, h.2]⟩
theorem wf_u8 {z : Int} (h0 : 0 ≤ z) (h1 : z < 256) : (Lit.int .u8 z).wf = true := by simp [Lit.wf, IntKind.min, IntKind.max, IntKind.signed, IntKind.bits]; omega
theorem wf_nat16 {k : Nat} (h : k ≤ 16) : (Lit.int .i64 (k : Int)).wf = true := by simp [Lit.wf, IntKind.min, IntKind.max, IntKind.signed, IntKind.bits]; omega
theorem wf_pad {zs : List Int} (n : Nat) (h : ∀ b ∈ zs, (Lit.int .u8 b).wf = true) : ∀ b ∈ pad zs n, (Lit.int .u8 b).wf = true := by
  intro b hb
  rcases List.mem_append.1 hb with hb | hb
  · exact h b hb
  · rw [(List.mem_replicate.1 hb).2]; decide
set_option maxHeartbeats 400000 in
theorem check_mid (k : Nat) (bs : List Int) (w : World) (h : k ≤ 16) (hb : bs.length = 16) (wb : ∀ b ∈ bs, (Lit.int .u8 b).wf = true) :
    Calls Tryz.prog 316 #[.agg (val k bs)] w (Gives2 w (.bool (decide (pad (bs.take k) 16 = bs)))) := by
  have v0 := val_0 k bs
  have h' : (k : Int) ≤ 16 := by omega
  have heq := eq_val k k (pad (bs.take k) 16) bs (wf_nat16 h) (wf_nat16 h) (pad_length _ _ (by simp; omega)) hb (wf_pad 16 (fun b hb => wb b (List.mem_of_mem_take hb))) wb
  simp only [true_and] at heq
  obtain ⟨r, hr⟩ : ∃ r, decide (pad (bs.take k) 16 = bs) = r := ⟨_, rfl⟩
  rw [hr] at heq ⊢
  clear hr
  have hsz := val_size k bs hb
  go_enter Tryz.func316, Tryz.ntmps316
  go_wp2
  obtain ⟨w1, hw1⟩ : ∃ w1, w1 = w.alloc (Obj.cells (val k bs) 56) := ⟨_, rfl⟩
  have hg := heap_alloc_new w (Obj.cells (val k bs) 56)
  have hlt : w.heap.size < w1.heap.size := by rw [hw1]; simp
  rw [← hw1] at hg ⊢
  have hc : w1.cell? ⟨w.heap.size, 0, none⟩ = some (.int .i64 k) := by rw [cell_of_row w1 _ 0 _ _ _ hg]; exact v0
  have HB1 : Hid (Below w.heap.size w w1) := Lib.hid (by rw [hw1]; exact (Below.refl _ _).alloc (Nat.le_refl _) _)
  clear hw1
  go_region_held3 (fun W => W.cell? ⟨w.heap.size, 0, none⟩ = some (.int .i64 k) ∧ W.heap[w.heap.size]? = some (.cells (val k bs) 56 (0, 0)) ∧ Below w1.heap.size w1 W) (first | exact ⟨hc2, hg2, hb2⟩ | exact ⟨hc, hg, (Below.refl _ _).drew⟩)
    (first | (go_at_call 187; refine (of_take (W := w1.drew) (g := w.heap.size) (t := 56) (n := k) (bs := bs) k _ h hb hlt hg).mono ?_; rintro e w2 ⟨rfl, hb1⟩; have hb2 : Below w1.heap.size w1 w2 := (Below.refl _ _).drew.trans hb1; have hg2 := (hb2.block w.heap.size hlt).trans hg; have hc2 := (hb2.cell (p := ⟨w.heap.size, 0, none⟩) hlt).trans hc))
  go_wp2
  go_ret
  exact ⟨rfl, HB1.out.trans (hb2.mono HB1.out.size)⟩
end Go.Proofs.YtloldofjddbjoaaGreat
namespace Go.Proofs.YtloldofjddbjoaaGreat
open Go.RowKit Go.ChangeShapes Go.ChangeAt Go.WideShapes
def vcheck (n : Int) (bs : List Int) : Bool := decide (0 ≤ n ∧ n ≤ 16 ∧ pad (bs.take n.toNat) 16 = bs)
theorem check_any (n : Int) (bs : List Int) (w : World) (hb : bs.length = 16) (wb : ∀ b ∈ bs, (Lit.int .u8 b).wf = true) :
    Calls Tryz.prog 316 #[.agg (val n bs)] w (Gives2 w (.bool (vcheck n bs))) := by
  by_cases h0 : n < 0
  · rw [show vcheck n bs = false from by simp [vcheck]; omega]
    exact check_lo n bs w h0
  · by_cases h1 : 16 < n
    · rw [show vcheck n bs = false from by simp [vcheck]; omega]
      exact check_hi n bs w (by omega) h1
    · obtain ⟨k, rfl⟩ := Int.eq_ofNat_of_zero_le (show 0 ≤ n by omega)
      rw [show vcheck k bs = decide (pad (bs.take k) 16 = bs) from by
        unfold vcheck
        rw [Bool.eq_iff_iff]
        simp only [decide_eq_true_eq, Int.toNat_natCast]
        exact ⟨fun h => h.2.2, fun h => ⟨by omega, by omega, h⟩⟩]
      exact check_mid k bs w (by omega) hb wb
set_option maxHeartbeats 400000 in
theorem number_any (n : Int) (bs : List Int) (w : World) (hb : bs.length = 16) (wb : ∀ b ∈ bs, (Lit.int .u8 b).wf = true) :
    Calls Tryz.prog 277 #[.agg (val n bs)] w (Gives2 w (.int .u64 (num (bs.take 8)))) := by
  have hg := heap_alloc_new w (Obj.cells (val n bs) 56)
  have hr := Rd.val_take 16 hg
  rw [List.take_of_length_le (by omega)] at hr
  have HN := num_yes (w.heap.size + 1) _ 16 bs 0 8 _ hr (fun z h => by have := bounds_u8 (wb z h); omega) (by omega) (by decide) (by decide) (by omega)
  rw [List.drop_zero, hb] at HN
  have H := Lib.hid HN
  clear HN hg hr
  go_enter Tryz.func277, Tryz.ntmps277
  go_wp2_with (go_at_call 300; refine H.out.mono ?_; rintro e w1 ⟨rfl, rfl⟩)
  go_ret
  exact ⟨rfl, (Below.refl _ _).alloc (Nat.le_refl _) _⟩
def from_ (n : Int) : List Int := pad (le n 8) 16
theorem from_length (n : Int) : (from_ n).length = 16 := pad_length _ _ (by rw [le_length]; decide)
set_option maxHeartbeats 400000 in
theorem from_any (n : Int) (w : World) (h0 : 0 ≤ n) :
    Calls Tryz.prog 276 #[.int .u64 n] w (Gives2 w (.agg (val 8 (from_ n)))) := by
  have HP := fun W => put_yes 0 none 0 [] n 8 W Rd.nil (by decide) (by decide) (by decide) h0
  have H := Lib.hid HP
  have hsz := Lib.hid (val_size 8 (from_ n) (from_length n))
  clear HP
  go_enter Tryz.func276, Tryz.ntmps276
  go_wp2_with fail
  refine (H.out _).mono ?_
  rintro e w1 ⟨v, rfl, own, hb1⟩
  rw [List.nil_append, show ([] : List Int).length + 8 = (le n 8).length from by rw [le_length]; rfl] at own
  obtain ⟨A1, c1, rfl, _, _, rd, _⟩ := Rd.of_own own
  have HO := of_any _ A1 c1 (le n 8) w1 rd (Nat.le_refl _) (by rw [le_length]; decide)
  have HZ := Lib.hid ((hb1.block w.heap.size (by simp)).trans (heap_alloc_new w _))
  have HB := Lib.hid (((Below.refl w.heap.size w).alloc (Nat.le_refl _) _).trans (hb1.mono (by simp)))
  have hlt : w.heap.size < w1.heap.size := by have := hb1.size; simp at this; omega
  clear own rd hb1
  rw [le_length] at HO
  have HO : Hid (Calls Tryz.prog 187 #[.slice A1 8 c1] w1 (Gives2 w1 (.agg (val 8 (from_ n))))) := Lib.hid HO
  go_wp2_with fail
  rw [le_length]
  refine HO.out.mono ?_
  rintro e w2 ⟨rfl, hb2⟩
  have hz := (hb2.block w.heap.size hlt).trans HZ.out
  have HB2 := Lib.hid (HB.out.trans (hb2.mono HB.out.size))
  clear hb2
  have HZ2 := Lib.hid hz
  clear hz
  go_wp2_with (refine wpList_store_row rfl 56 (.tmp 2) (.tmp 5) rfl w.heap.size _ rfl rfl 56 _ HZ2.out (by rw [hsz.out]; exact size24) (by rw [hsz.out]; rfl) (all_one (val_one _ _)) ?_)
  refine bodyPost_ret (results_cell_row rfl _ _ w.heap.size 56 _ (0, 0) _ rfl (setRow_heap _ _ _ _ _ _ HZ2.out) Tryz.underlying56 rfl (by rw [hsz.out]; exact size24)) rfl ⟨rfl, ?_⟩
  exact below_setRow HB2.out (Nat.le_refl _) _
set_option maxHeartbeats 400000 in
theorem plus_any (n : Int) (bs : List Int) (k : Int) (w : World) (hb : bs.length = 16) (wb : ∀ b ∈ bs, (Lit.int .u8 b).wf = true) :
    Calls Tryz.prog 223 #[.agg (val n bs), .int .u64 k] w (Gives2 w (.agg (val 8 (from_ (IntKind.u64.wrap (num (bs.take 8) + k)))))) := by
  have HN := Lib.hid (fun W => number_any n bs W hb wb)
  obtain ⟨m, hm⟩ : ∃ m, IntKind.u64.wrap (num (bs.take 8) + k) = m := ⟨_, rfl⟩
  have hm0 : 0 ≤ m := by rw [← hm, IntKind.wrap_u64]; omega
  have HF := Lib.hid (fun W => from_any m W hm0)
  have hsz := Lib.hid (val_size n bs hb)
  have hsz2 := Lib.hid (val_size 8 (from_ m) (from_length m))
  rw [hm]
  have HM := Lib.hid hm
  have HG := Lib.hid (fun o => (heap_alloc2_old w (Obj.cells (val n bs) 56) o))
  clear wb hb hm
  go_enter Tryz.func223, Tryz.ntmps223
  go_wp2_with (refine wpList_load_row rfl 56 (.tmp 2) rfl w.heap.size rfl 56 _ (0, 0) _ (HG.out _) Tryz.underlying56 rfl (by rw [hsz.out]; exact size24) ?_)
  refine (HN.out _).mono ?_
  rintro e w1 ⟨rfl, hb1⟩
  have hlt : w.heap.size + 1 < w1.heap.size := by have := hb1.size; rw [World.size_alloc, World.size_alloc] at this; omega
  have HZ := Lib.hid ((hb1.block (w.heap.size + 1) (by simp)).trans (heap_alloc2_new w _ _))
  have HB := Lib.hid ((((Below.refl w.heap.size w).alloc (Nat.le_refl _) _).alloc (by simp) _).trans (hb1.mono (by simp; omega)))
  have hm := HM.out
  clear hb1
  go_wp2_with fail
  refine (HF.out _).mono ?_
  rintro e w2 ⟨rfl, hb2⟩
  have HZ2 := Lib.hid ((hb2.block (w.heap.size + 1) hlt).trans HZ.out)
  have HB2 := Lib.hid (HB.out.trans (hb2.mono HB.out.size))
  clear hb2 hm
  go_wp2_with (refine wpList_store_row rfl 56 (.tmp 4) (.tmp 9) rfl (w.heap.size + 1) _ rfl rfl 56 _ HZ2.out (by rw [hsz2.out]; exact size24) (by rw [hsz2.out]; rfl) (all_one (val_one _ _)) ?_)
  refine bodyPost_ret (results_cell_row rfl _ _ (w.heap.size + 1) 56 _ (0, 0) _ rfl (setRow_heap _ _ _ _ _ _ HZ2.out) Tryz.underlying56 rfl (by rw [hsz2.out]; exact size24)) rfl ⟨rfl, ?_⟩
  exact below_setRow HB2.out (by omega) _
def byt (s : ByteArray) : List Int := s.data.toList.map fun b => (b.toNat : Int)
theorem byt_length (s : ByteArray) : (byt s).length = s.size := by unfold byt; rw [List.length_map, Array.length_toList]; rfl
theorem byt_u8 (s : ByteArray) : ∀ b ∈ byt s, 0 ≤ b ∧ b < 256 := by
  intro b hb
  obtain ⟨c, _, rfl⟩ := List.mem_map.1 hb
  have := c.toNat_lt
  omega
theorem byt_wf (s : ByteArray) : ∀ b ∈ byt s, (Lit.int .u8 b).wf = true := fun b hb => wf_u8 (byt_u8 s b hb).1 (byt_u8 s b hb).2
theorem Rd.bytes (w : World) (s : ByteArray) (cap : Nat) (fr : Nat × Nat) : Rd (w.alloc (.cells (bytesRow s cap) 5 fr)) (w.heap.size + 1) (some ⟨w.heap.size, 0, none⟩) ((byt s).map (.int .u8)) := by
  intro _
  refine ⟨w.heap.size, 0, rfl, by omega, fun j u hj => ?_⟩
  rw [World.cell?_alloc_mark, Nat.zero_add]
  simp only [byt, List.map_map, List.getElem?_map, Option.map_eq_some_iff, Function.comp] at hj
  obtain ⟨b, hb, rfl⟩ := hj
  have hlt : j < s.data.size := by have := (List.getElem?_eq_some_iff.1 hb).1; simpa using this
  rw [bytesRow_at s cap j hlt]
  have : s.data[j] = b := by
    have := hb
    rw [List.getElem?_eq_getElem (by simpa using hlt)] at this
    simpa using this
  rw [this]
theorem results_row_tmp {P : Program} {fn : Func} {p u : Tmp} {ty : TypeId} (h : fn.results = #[.cell p ty, .tmp u]) (tmps : Array Value) (w : World) (g : Nat) (t : TypeId) (cs : Array Value) (fr : Nat × Nat) (d : TypeDesc)
    (hp : tmps.getD p undef = .pointer (some ⟨g, 0, none⟩)) (hg : w.heap[g]? = some (.cells cs t fr))
    (hu : P.underlying ty = some d) (hd : (match d with | .struct _ | .array _ _ => true | _ => false) = true) (hi : (P.info? ty).map (·.size) = some cs.size) :
    (results fn tmps).run P w = .ok (.tuple #[.agg cs, tmps.getD u undef]) w := by
  have hp' : tmps[p]?.getD undef = .pointer (some ⟨g, 0, none⟩) := by simpa using hp
  simp [results, h, hp', asAddr, run_loadVar_row w g t ty cs fr d hg hu hd hi]
def val0 : List Int := List.replicate 16 0
set_option maxHeartbeats 400000 in
theorem vof_ok (s : ByteArray) (w : World) (h : s.size ≤ 16) :
    Calls Tryz.prog 126 #[.string s] w (Gives2 w (.tuple #[.agg (val s.size (pad (byt s) 16)), .int .i64 0])) := by
  have h' : (s.size : Int) ≤ 16 := by omega
  have hc := fun W => run_bytes_of_string (P := Tryz.prog) W 9 23 5 s Tryz.underlying9 Tryz.underlying23 Tryz.underlying5
  have hsz := Lib.hid (val_size s.size (pad (byt s) 16) (pad_length _ _ (by rw [byt_length]; exact h)))
  have ho : ∀ (W : World) (g c : Nat) (fr : Nat × Nat), g = W.heap.size → Calls Tryz.prog 187 #[.slice (some ⟨g, 0, none⟩) s.size c] (World.drew (W.alloc (.cells (bytesRow s c) 5 fr))) (Gives2 (World.drew (W.alloc (.cells (bytesRow s c) 5 fr))) (.agg (val s.size (pad (byt s) 16))))   := fun W g c fr hg => by
    subst hg
    have hr : Rd (World.drew (W.alloc (.cells (bytesRow s c) 5 fr))) (W.heap.size + 1) (some ⟨W.heap.size, 0, none⟩) ((byt s).map (.int .u8)) := (Rd.bytes W s c fr).keep (fun p _ => rfl)
    have := of_any (W.heap.size + 1) (some ⟨W.heap.size, 0, none⟩) c (byt s) _ hr (by simp) (by rw [byt_length]; exact h)
    rw [byt_length] at this
    exact this
  have HO := Lib.hid ho
  clear ho
  go_enter Tryz.func126, Tryz.ntmps126
  have HA := Lib.hid (heap_alloc_new w)
  go_wp2_with fail
  refine (HO.out (w.alloc _) (w.heap.size + 1) _ _ (by simp)).mono ?_
  rintro e w1 ⟨rfl, hb1⟩
  have HZ := Lib.hid ((hb1.block w.heap.size (by simp; omega)).trans ((Below.heap_alloc _ _ _ (by simp)).trans (HA.out _)))
  have HB := Lib.hid ((((Below.refl w.heap.size w).alloc (Nat.le_refl _) _).alloc (by simp) _).drew.trans (hb1.mono (by simp; omega)))
  clear hb1 hc
  go_wp2_with (refine wpList_store_row rfl 56 (.tmp 2) (.tmp 10) rfl w.heap.size _ rfl rfl 56 _ HZ.out (by rw [hsz.out]; exact size24) (by rw [hsz.out]; rfl) (all_one (val_one _ _)) ?_)
  refine bodyPost_ret (results_row_tmp rfl _ _ w.heap.size 56 _ (0, 0) _ rfl (setRow_heap _ _ _ _ _ _ HZ.out) Tryz.underlying56 rfl (by rw [hsz.out]; exact size24)) rfl ⟨rfl, ?_⟩
  exact below_setRow HB.out (Nat.le_refl _) _
theorem pad_iff (bs : List Int) (k : Nat) (hb : bs.length = 16) (hk : k ≤ 16) : pad (bs.take k) 16 = bs ↔ ∀ i, k ≤ i → i < 16 → bs[i]?.getD 0 = 0 := by
  have hl : (bs.take k).length = k := by rw [List.length_take]; omega
  unfold pad
  rw [hl]
  constructor
  · intro h i h1 h2
    rw [← h, List.getElem?_append_right (by omega), hl, List.getElem?_replicate]
    split <;> rfl
  · intro h
    apply List.ext_getElem?
    intro i
    by_cases hi : i < k
    · rw [List.getElem?_append_left (by omega), List.getElem?_take, if_pos hi]
    · rw [List.getElem?_append_right (by omega), hl, List.getElem?_replicate]
      by_cases h16 : i < 16
      · rw [if_pos (by omega)]
        have := h i (by omega) h16
        rw [List.getElem?_eq_getElem (by omega)] at this ⊢
        simpa using this.symm
      · rw [if_neg (by omega), List.getElem?_eq_none (by omega)]
theorem vcheck_nat (k : Nat) (bs : List Int) (hk : k ≤ 16) : vcheck k bs = decide (pad (bs.take k) 16 = bs) := by
  unfold vcheck
  rw [Bool.eq_iff_iff]
  simp only [decide_eq_true_eq, Int.toNat_natCast]
  exact ⟨fun h => h.2.2, fun h => ⟨by omega, by omega, h⟩⟩
theorem val_at (n : Int) (bs : List Int) (j : Nat) (hj : j < bs.length) : (val n bs)[1 + j]? = some (.int .u8 (bs[j]?.getD 0)) := by
  simp only [val, List.getElem?_toArray, Nat.add_comm 1 j, List.getElem?_cons_succ, List.getElem?_map, List.getElem?_eq_getElem hj]
  rfl
set_option maxHeartbeats 400000 in
theorem rcheck_any (n : Int) (bs : List Int) (w : World) (hb : bs.length = 16) :
    Calls Tryz.prog 61 #[.agg (val n bs)] w (Gives2 w (.bool (vcheck n bs))) := by
  have v0 := val_0 n bs
  by_cases h0 : n < 0
  · rw [show vcheck n bs = false from by simp [vcheck]; omega]
    go_enter Tryz.func61, Tryz.ntmps61
    go_wp2
    go_ret
    exact ⟨rfl, (Below.refl _ _).alloc (Nat.le_refl _) _⟩
  · have h0' : 0 ≤ n := by omega
    by_cases h1 : 16 < n
    · rw [show vcheck n bs = false from by simp [vcheck]; omega]
      clear h0
      go_enter Tryz.func61, Tryz.ntmps61
      go_wp2
      go_ret
      exact ⟨rfl, (Below.refl _ _).alloc (Nat.le_refl _) _⟩
    · obtain ⟨k, rfl⟩ := Int.eq_ofNat_of_zero_le h0'
      have hk : (k : Int) ≤ 16 := by omega
      have HV := Lib.hid (vcheck_nat k bs (by omega))
      have HI := Lib.hid (pad_iff bs k hb (by omega))
      have HA := Lib.hid (val_at (k : Int) bs)
      clear h0 h1 h0'
      go_enter Tryz.func61, Tryz.ntmps61
      go_wp2
      go_loop [3] (fun i => ∃ j : Nat, k ≤ j ∧ j ≤ 16 ∧ i = .int .i64 j ∧ ∀ i, k ≤ i → i < j → bs[i]?.getD 0 = 0) (fun i => 16 - (intOf i).toNat)
      case atStart => exact ⟨k, Nat.le_refl _, by omega, rfl, fun i h1 h2 => absurd h2 (by omega)⟩
      case round =>
        obtain ⟨j, hj1, hj2, rfl, hz⟩ := hrel
        have HZ := Lib.hid hz
        clear hz
        by_cases hlt : j < 16
        · have hcell := HA.out j (by omega)
          obtain ⟨z, hzz⟩ : ∃ z, bs[j]?.getD 0 = z := ⟨_, rfl⟩
          rw [hzz] at hcell
          have HN := Lib.hid hzz
          clear hzz
          by_cases hne : z = 0
          · subst hne
            go_wp2
            go_round
            case rel => exact ⟨j + 1, by omega, by omega, by go_num, fun i h1 h2 => by
              rcases Nat.lt_or_ge i j with h | h
              · exact HZ.out i h1 h
              · rw [show i = j from by omega]; exact HN.out⟩
            case measure => simp [intOf]; omega
          · have hb1 : (z != 0) = true := by simpa using hne
            have HNE := Lib.hid hne
            clear hne
            go_wp2
            go_ret
            exact ⟨ret_bool (by rw [HV.out]; symm; rw [decide_eq_false_iff_not, HI.out]; exact fun h => HNE.out (HN.out.symm.trans (h j (by omega) hlt))), (Below.refl _ _).alloc (Nat.le_refl _) _⟩
        · go_wp2
          go_ret
          exact ⟨ret_bool (by rw [HV.out]; symm; rw [decide_eq_true_iff, HI.out]; exact fun i h1 h2 => HZ.out i h1 (by omega)), (Below.refl _ _).alloc (Nat.le_refl _) _⟩
def pre (zs : List Int) (j : Nat) : List Int := zs.take j ++ List.replicate (16 - j) 0
end Go.Proofs.YtloldofjddbjoaaGreat
namespace Go.Sep
abbrev Env := List (Nat × Value)
def look : Env → Nat → Option Value
  | [], _ => none
  | (i, v) :: L, k => bif i.beq k then some v else look L k
structure Know (n : Nat) (L : Env) (a : Act) : Prop where
  size : a.tmps.size = n
  defers : a.defers = []
  get : ∀ i v, look L i = some v → a.tmps[i]? = some v
theorem Know.put {n : Nat} {L : Env} {a : Act} (h : Know n L a) {d : Nat} (v : Value) (hd : d.blt n = true) : Know n ((d, v) :: L) (a.put (some d) v) := by
  have hd' : d < n := by simpa [Nat.blt_eq] using hd
  refine ⟨by simp [Act.put, h.size], h.defers, fun i u hu => ?_⟩
  simp only [look] at hu
  by_cases hi : d = i
  · subst hi
    simp at hu
    subst hu
    simp [Act.put, h.size, hd']
  · have : d.beq i = false := by rw [Bool.eq_false_iff]; intro h'; exact hi (Nat.eq_of_beq_eq_true h')
    rw [this] at hu
    simp at hu
    simp [Act.put, Array.getElem?_setIfInBounds_ne hi]
    simpa using h.get i u hu
def Sub (L' L : Env) : Prop := ∀ i v, look L' i = some v → look L i = some v
theorem Sub.nil {L : Env} : Sub [] L := fun _ _ h => by cases h
theorem Sub.cons {L' L : Env} {i : Nat} {v : Value} (h : look L i = some v) (t : Sub L' L) : Sub ((i, v) :: L') L := fun k u hu => by
  simp only [look] at hu
  by_cases hi : i = k
  · subst hi; simp at hu; subst hu; exact h
  · have : i.beq k = false := by rw [Bool.eq_false_iff]; intro h'; exact hi (Nat.eq_of_beq_eq_true h')
    rw [this] at hu; exact t k u hu
theorem Sub.consE {L' L : Env} {i : Nat} {v u : Value} (h : look L i = some u) (e : u = v) (t : Sub L' L) : Sub ((i, v) :: L') L := Sub.cons (e ▸ h) t
theorem Know.sub {n : Nat} {L L' : Env} {a : Act} (h : Know n L a) (s : Sub L' L) : Know n L' a := ⟨h.size, h.defers, fun i v hv => h.get i v (s i v hv)⟩
def ev (L : Env) : Operand → Option Value
  | .tmp t => look L t
  | .const v => some v
  | .global g => some (.pointer (some ⟨g, 0, none⟩))
  | .func f => some (.func (.func f) #[] #[])
theorem Know.eval {n : Nat} {L : Env} {a : Act} (h : Know n L a) {x : Operand} {v : Value} (hx : ev L x = some v) : a.eval x = v := by
  cases x with
  | tmp t => have := h.get t v hx; simp [Act.eval, Array.getD_eq_getD_getElem?, this]
  | const u => simp [ev] at hx; subst hx; rfl
  | global g => simp [ev] at hx; subst hx; rfl
  | func f => simp [ev] at hx; subst hx; rfl
def Pre (n : Nat) (L : Env) (X : World → Prop) (F : Act → World → Prop) : Prop := ∀ a w, Know n L a → X w → F a w
section code
variable {P : Program} {n : Nat} {L : Env} {X : World → Prop} {Q : Exit → Act → World → Prop}
theorem Pre.sub {F : Act → World → Prop} (L' : Env) (s : Sub L' L) (h : Pre n L' X F) : Pre n L X F := fun a w k x => h a w (k.sub s) x
theorem Pre.world {F : Act → World → Prop} (X' : World → Prop) (s : ∀ w, X w → X' w) (h : Pre n L X' F) : Pre n L X F := fun a w k x => h a w k (s w x)
theorem Pre.fact {F : Act → World → Prop} {p : Prop} (s : ∀ w, X w → p) (h : p → Pre n L X F) : Pre n L X F := fun a w k x => h (s w x) a w k x
theorem c_seq {c d : Code} (h : Pre n L X (c.wp P (Exit.then (d.wp P Q) Q))) : Pre n L X ((Code.seq c d).wp P Q) := fun a w k x => wp_seq (h a w k x)
theorem c_skip (h : Pre n L X (Q .normal)) : Pre n L X (Code.skip.wp P Q) := fun a w k x => wp_skip (h a w k x)
theorem c_block {id : Nat} {c : Code} (h : Pre n L X (c.wp P (Exit.inBlock id Q))) : Pre n L X ((Code.block id c).wp P Q) := fun a w k x => wp_block (h a w k x)
theorem c_exit {id : Nat} (h : Pre n L X (Q (.exit id))) : Pre n L X ((Code.exit id).wp P Q) := fun a w k x => wp_exit (h a w k x)
theorem c_ret (h : Pre n L X (Q .ret)) : Pre n L X (Code.ret.wp P Q) := fun a w k x => wp_ret (h a w k x)
theorem c_true {c : Operand} {x y : Code} (hc : ev L c = some (.bool true)) (ht : Pre n L X (x.wp P Q)) : Pre n L X ((Code.cond c x y).wp P Q) := fun a w k hx => wp_cond_true (k.eval hc) (ht a w k hx)
theorem c_false {c : Operand} {x y : Code} (hc : ev L c = some (.bool false)) (ht : Pre n L X (y.wp P Q)) : Pre n L X ((Code.cond c x y).wp P Q) := fun a w k hx => wp_cond_false (k.eval hc) (ht a w k hx)
theorem k_then {K : Act → World → Prop} (h : Pre n L X K) : Pre n L X (Exit.then K Q .normal) := h
theorem k_then_exit {K : Act → World → Prop} {id : Nat} (h : Pre n L X (Q (.exit id))) : Pre n L X (Exit.then K Q (.exit id)) := h
theorem k_then_ret {K : Act → World → Prop} (h : Pre n L X (Q .ret)) : Pre n L X (Exit.then K Q .ret) := h
theorem k_block {id : Nat} (h : Pre n L X (Q .normal)) : Pre n L X (Exit.inBlock id Q .normal) := h
theorem k_block_exit {id : Nat} (h : Pre n L X (Q .normal)) : Pre n L X (Exit.inBlock id Q (.exit id)) := fun a w k x => by
  show (if id = id then Q .normal a w else Q (.exit id) a w)
  rw [if_pos rfl]; exact h a w k x
theorem k_block_other {id id' : Nat} (hne : Nat.beq id' id = false) (h : Pre n L X (Q (.exit id'))) : Pre n L X (Exit.inBlock id Q (.exit id')) := fun a w k x => by
  show (if id' = id then Q .normal a w else Q (.exit id') a w)
  rw [if_neg (fun e => by subst e; simp at hne)]; exact h a w k x
theorem k_block_ret {id : Nat} (h : Pre n L X (Q .ret)) : Pre n L X (Exit.inBlock id Q .ret) := h
def Round {α : Type} (n : Nat) (μ : α → Nat) (Lv : α → Env) (Xv : α → World → Prop) (p : α → Prop) (m : Nat) : Act → World → Prop := fun a w => ∃ b, μ b < m ∧ p b ∧ Know n (Lv b) a ∧ Xv b w
theorem c_loop {α : Type} {c : Code} (Lv : α → Env) (Xv : α → World → Prop) (p : α → Prop) (μ : α → Nat) (b0 : α) (h0 : p b0) (hL : Sub (Lv b0) L) (hX : ∀ w, X w → Xv b0 w)
    (round : ∀ b, p b → Pre n (Lv b) (Xv b) (c.wp P (Exit.then (Round n μ Lv Xv p (μ b)) Q))) : Pre n L X ((Code.loop c).wp P Q) := by
  intro a w k x
  have key : ∀ (m : Nat) (b : α), μ b = m → p b → ∀ a w, Know n (Lv b) a → Xv b w → ∀ (fr : Frame) (t : List Item) (cs : List Frame),
      ∃ e a' w', Q e a' w' ∧ Arrives P (lone (fr.at a (.code c :: .inLoop c :: t)) cs w) fr t cs e a' w' := by
    intro m
    induction m using Nat.strongRecOn with
    | _ m ih =>
      intro b hm hp a w hk hx fr t cs
      obtain ⟨e, a₁, w₁, hq, harr⟩ := round b hp a w hk hx fr (.inLoop c :: t) cs
      cases e with
      | normal =>
        obtain ⟨b', hlt, hp', hk', hx'⟩ := hq
        obtain ⟨e₂, a₂, w₂, hq₂, harr₂⟩ := ih (μ b') (hm ▸ hlt) b' rfl hp' a₁ w₁ hk' hx' fr t cs
        exact ⟨e₂, a₂, w₂, hq₂, .of_steps (Steps.trans harr (.one step_inLoop)) harr₂⟩
      | exit id => exact ⟨_, a₁, w₁, hq, .pass (x := .inLoop c) rfl (fun _ _ => .inl (by simp)) harr⟩
      | goto l => exact ⟨_, a₁, w₁, hq, .pass (x := .inLoop c) rfl (fun _ _ => .inl (by simp)) harr⟩
      | ret => exact ⟨_, a₁, w₁, hq, .pass (x := .inLoop c) rfl (fun _ _ => .inl (by simp)) harr⟩
      | panic ch => exact ⟨_, a₁, w₁, hq, .pass (x := .inLoop c) rfl (fun _ _ => .inl (by simp)) harr⟩
      | outgrown => exact ⟨_, a₁, w₁, hq, .pass (x := .inLoop c) rfl (fun _ _ => .inl (by simp)) harr⟩
  intro fr t cs
  obtain ⟨e, a', w', hq, harr⟩ := key (μ b0) b0 rfl h0 a w (k.sub hL) (hX w x) fr t cs
  exact ⟨e, a', w', hq, .of_steps (.one step_loop) harr⟩
theorem k_round {α : Type} {μ : α → Nat} {Lv : α → Env} {Xv : α → World → Prop} {p : α → Prop} {m : Nat} (b : α) (hm : μ b < m) (hp : p b) (hL : Sub (Lv b) L) (hX : ∀ w, X w → Xv b w) : Pre n L X (Exit.then (Round n μ Lv Xv p m) Q .normal) :=
  fun a w k x => ⟨b, hm, hp, k.sub hL, hX w x⟩
def Meet {α : Type} (n : Nat) (Lv : α → Env) (Xv : α → World → Prop) (p : α → Prop) : Act → World → Prop := fun a w => ∃ b, p b ∧ Know n (Lv b) a ∧ Xv b w
theorem k_meet {α : Type} {Lv : α → Env} {Xv : α → World → Prop} {p : α → Prop} (b : α) (hp : p b) (hL : Sub (Lv b) L) (hX : ∀ w, X w → Xv b w) : Pre n L X (Exit.then (Meet n Lv Xv p) Q .normal) :=
  fun a w k x => ⟨b, hp, k.sub hL, hX w x⟩
end code
def argEnv : Nat → List Value → Env
  | _, [] => []
  | i, v :: vs => (i, v) :: argEnv (i + 1) vs
theorem argEnv_get : ∀ (vs : List Value) (i k : Nat) (v : Value), look (argEnv i vs) k = some v → ∃ j, k = i + j ∧ vs[j]? = some v
  | [], _, _, _, h => by cases h
  | u :: vs, i, k, v, h => by
    simp only [argEnv, look] at h
    by_cases hi : i = k
    · subst hi; simp at h; subst h; exact ⟨0, rfl, rfl⟩
    · have : i.beq k = false := by rw [Bool.eq_false_iff]; intro h'; exact hi (Nat.eq_of_beq_eq_true h')
      rw [this] at h
      obtain ⟨j, e, hj⟩ := argEnv_get vs (i + 1) k v h
      exact ⟨j + 1, by omega, hj⟩
theorem enter {P : Program} {f n : Nat} {fn : Func} {c : Code} {vs : List Value} {w : World} {R : Ending → World → Prop} (X : World → Prop) (hf : P.funcs[f]? = some fn) (hb : fn.body = some c) (hnn : fn.ntmps = n) (hs : vs.length.ble n = true) (hX : X w)
    (h : Pre n (argEnv 0 vs) X (c.wp P (bodyPost P fn R))) : Calls P f vs.toArray w R := by
  subst hnn
  refine calls_of_wp hf hb (h _ w ⟨?_, rfl, fun i v hv => ?_⟩ hX)
  · have := Nat.le_of_ble_eq_true hs
    simp; omega
  · obtain ⟨j, e, hj⟩ := argEnv_get vs 0 i v hv
    have : i = j := by omega
    subst this
    have hlt : i < vs.length := (List.getElem?_eq_some_iff.1 hj).1
    simp [Array.getElem?_append, hlt]
    simpa [List.getElem?_eq_getElem hlt] using hj
def resEv (L : Env) : List ResultVar → Option (List Value)
  | [] => some []
  | .tmp t :: rs => match look L t, resEv L rs with
    | some v, some vs => some (v :: vs)
    | _, _ => none
  | .cell _ _ :: _ => none
def resOne (tmps : Array Value) : ResultVar → Sem Value
  | .tmp t => pure (tmps.getD t undef)
  | .cell x t => do loadVar t (← asAddr (tmps.getD x undef))
theorem results_of {P : Program} {n : Nat} {L : Env} {a : Act} {w : World} (k : Know n L a) : ∀ (rs : List ResultVar) (vs : List Value), resEv L rs = some vs →
    (rs.mapM (resOne a.tmps)).run P w = .ok vs w
  | [], vs, h => by cases h; rfl
  | .tmp t :: rs, vs, h => by
    simp only [resEv] at h
    cases ht : look L t with
    | none => rw [ht] at h; cases h
    | some v =>
      cases hr : resEv L rs with
      | none => rw [ht, hr] at h; cases h
      | some us =>
        rw [ht, hr] at h
        cases h
        have := k.get t v ht
        simp [List.mapM_cons, results_of k rs us hr, resOne, Array.getD_eq_getD_getElem?, this]
  | .cell _ _ :: _, _, h => by cases h
def asOne : List Value → Value
  | [v] => v
  | vs => .tuple vs.toArray
theorem run_results {P : Program} {n : Nat} {L : Env} {a : Act} {w : World} (k : Know n L a) {fn : Func} {rs : List ResultVar} {vs : List Value} (hr : fn.results = rs.toArray) (h : resEv L rs = some vs) :
    (results fn a.tmps).run P w = .ok (asOne vs) w := by
  have := results_of (P := P) (w := w) k rs vs h
  have e : (results fn a.tmps) = (do let vs ← fn.results.mapM (resOne a.tmps); pure (if h : vs.size = 1 then vs[0] else .tuple vs)) := rfl
  rw [e, hr]
  simp only [List.mapM_toArray, Sem.run_bind, Sem.run_map, this, Result.andThen_ok, Sem.run_pure]
  match vs with
  | [] => rfl
  | [v] => rfl
  | u :: v :: ws => simp [asOne]
section
variable {P : Program} {n : Nat} {L : Env} {X : World → Prop} {fn : Func} {R : Ending → World → Prop}
theorem r_one {t : Nat} {v : Value} (hr : fn.results = #[.tmp t]) (h : look L t = some v) (hR : ∀ w, X w → R (.returned v) w) : Pre n L X (bodyPost P fn R .ret) := fun a w k x =>
  ⟨k.defers, v, run_results (rs := [.tmp t]) (vs := [v]) k hr (by simp [resEv, h]), hR w x⟩
theorem r_many {rs : List ResultVar} {u v : Value} {vs : List Value} (hr : fn.results = rs.toArray) (h : resEv L rs = some (u :: v :: vs)) (hR : ∀ w, X w → R (.returned (.tuple (u :: v :: vs).toArray)) w) : Pre n L X (bodyPost P fn R .ret) := fun a w k x =>
  ⟨k.defers, _, run_results (rs := rs) k hr h, hR w x⟩
theorem r_none (hr : fn.results = #[]) (hR : ∀ w, X w → R (.returned (.tuple #[])) w) : Pre n L X (bodyPost P fn R .ret) := fun a w k x =>
  ⟨k.defers, _, run_results (rs := []) k hr rfl, hR w x⟩
theorem r_normal (h : Pre n L X (bodyPost P fn R .ret)) : Pre n L X (bodyPost P fn R .normal) := h
end
end Go.Sep
namespace Go.Sep
def guardSlot (ops : Array Oper) (o : Oper) : Option Nat := o.guard.bind fun (j, _) => (ops[j]?).bind (·.dst)
def wantL (ops : Array Oper) (L : Env) (o : Oper) : Option Bool :=
  match o.guard with
  | none => some true
  | some (j, want) =>
    match (ops[j]?).bind (·.dst) with
    | none => none
    | some t => match look L t with
      | some (.bool b) => some (b == want)
      | some _ => some false
      | none => none
theorem wantL_spec {ops : Array Oper} {n : Nat} {L : Env} {a : Act} (k : Know n L a) {o : Oper} {b : Bool} (h : wantL ops L o = some b) : Region.wanted o (yielded ops a.tmps) = b := by
  unfold wantL at h
  unfold Region.wanted
  cases hg : o.guard with
  | none => rw [hg] at h; simp at h; rw [← h]
  | some jw =>
    obtain ⟨j, want⟩ := jw
    rw [hg] at h
    simp only at h ⊢
    cases hd : (ops[j]?).bind (·.dst) with
    | none => rw [hd] at h; cases h
    | some t =>
      rw [hd] at h
      simp only at h
      cases hl : look L t with
      | none => rw [hl] at h; cases h
      | some v =>
        rw [hl] at h
        have := k.get t _ hl
        unfold yielded
        cases v <;> simp only [Option.some.injEq] at h <;> rw [← h] <;> simp [hd, this]
def wpL (P : Program) (ops : Array Oper) (Q : Exit → Act → World → Prop) : List Oper → Act → World → Prop
  | [], a, w => Q .normal a w
  | o :: rest, a, w => if Region.wanted o (yielded ops a.tmps) then o.wp P a w (wpL P ops Q rest) Q else wpL P ops Q rest (a.put o.dst undef) w
theorem wpL_sound {P : Program} {ops : Array Oper} {Q : Exit → Act → World → Prop} : ∀ (rest : List Oper) (i : Nat), (∀ j, ops[i + j]? = rest[j]?) → ∀ a w, wpL P ops Q rest a w → wpOps P ops Q (List.range' i rest.length) a w
  | [], i, h, a, w, hw => hw
  | o :: rest, i, h, a, w, hw => by
    simp only [List.length_cons, List.range'_succ]
    rw [wpOps_cons]
    have h0 : ops[i]? = some o := by simpa using h 0
    unfold wpOp
    simp only [h0]
    have hr : ∀ a w, wpL P ops Q rest a w → wpOps P ops Q (List.range' (i + 1) rest.length) a w := wpL_sound rest (i + 1) (fun j => by have := h (j + 1); simpa [Nat.add_assoc, Nat.add_comm 1 j] using this)
    unfold wpL at hw
    split
    · rename_i hq; rw [if_pos hq] at hw; exact .inl (Oper.wp_mono hr hw)
    · rename_i hq; rw [if_neg hq] at hw; exact hr _ _ hw
section tail
variable {P : Program} {ops : Array Oper} {Q : Exit → Act → World → Prop} {md : Region.Mode} {S : World → Prop} {T : List Nat}
def wpAnyT (P : Program) (md : Region.Mode) (ops : Array Oper) (Q : Exit → Act → World → Prop) (S : World → Prop) (T : List Nat) : Nat → Array Bool → Act → World → Prop
  | 0, listed, a, w => Region.ready md ops listed = [] ∧ Q .normal a w
  | fuel + 1, listed, a, w =>
    (Region.ready md ops listed = [] → Q .normal a w) ∧
    ∀ i ∈ Region.ready md ops listed, wpOp P ops Q i (fun a' w' => (T.contains i = false → S w') ∧ wpAnyT P md ops Q S T fuel (listed.setIfInBounds i true) a' w') a w
theorem wpAny_of_T : ∀ (fuel : Nat) (listed : Array Bool) (a : Act) (w : World), wpAnyT P md ops Q S T fuel listed a w → wpAny P md ops Q fuel listed a w
  | 0, _, _, _, h => h
  | fuel + 1, _, _, _, h => ⟨h.1, fun i hi => wpOp_mono (fun a' w' h' => wpAny_of_T fuel _ a' w' h'.2) (h.2 i hi)⟩
def waitsFor (md : Region.Mode) (ops : Array Oper) (i : Nat) : Nat → Nat → Bool
  | 0, _ => false
  | k + 1, t => ((ops[t]?).getD default).after.toList.any (fun e => Region.binds md e && (e.on == i || waitsFor md ops i k e.on))
def Closed (md : Region.Mode) (ops : Array Oper) (listed : Array Bool) : Prop := ∀ j o, ops[j]? = some o → listed.getD j true = true → ∀ e ∈ o.after, Region.binds md e = true → listed.getD e.on false = true
theorem closed_none : Closed md ops (Array.replicate ops.size false) := fun j o ho hl => by
  have hj := (Array.getElem?_eq_some_iff.1 ho).1
  simp [hj] at hl
theorem closed_set {j : Nat} {listed : Array Bool} (h : Closed md ops listed) (hr : j ∈ Region.ready md ops listed) : Closed md ops (listed.setIfInBounds j true) := by
  intro k o ho hl e he hb
  have mono : listed.getD e.on false = true → (listed.setIfInBounds j true).getD e.on false = true := fun h0 => by
    simp only [Array.getD_eq_getD_getElem?, Array.getElem?_setIfInBounds] at h0 ⊢
    split
    · split <;> simp_all
    · exact h0
  by_cases hkj : k = j
  · subst hkj
    obtain ⟨_, oj, hoj, hall⟩ := mem_ready.1 hr
    rw [ho] at hoj; cases hoj
    exact mono (hall e he hb)
  · rw [getD_set_ne true (Ne.symm hkj)] at hl
    exact mono (h k o ho hl e he hb)
theorem waits_listed {i : Nat} {listed : Array Bool} (hc : Closed md ops listed) : ∀ (k t : Nat), waitsFor md ops i k t = true → (∀ o, ops[t]? = some o → ∀ e ∈ o.after, Region.binds md e = true → listed.getD e.on false = true) → listed.getD i false = true
  | 0, t, h, _ => by cases h
  | k + 1, t, h, hd => by
    unfold waitsFor at h
    obtain ⟨e, he, h2⟩ := List.any_eq_true.1 h
    simp only [Bool.and_eq_true, Bool.or_eq_true, beq_iff_eq] at h2
    cases ho : ops[t]? with
    | none =>
      rw [ho] at he
      have h0 : (default : Oper).after = #[] := rfl
      rw [Option.getD_none, h0] at he
      cases he
    | some o =>
      rw [ho, Option.getD_some] at he
      have he' := Array.mem_toList_iff.1 he
      have hl := hd o ho e he' h2.1
      rcases h2.2 with rfl | h3
      · exact hl
      · refine waits_listed hc k e.on h3 (fun o' ho' => hc e.on o' ho' ?_)
        simp only [Array.getD_eq_getD_getElem?] at hl ⊢
        cases hx : listed[e.on]? with
        | none => rfl
        | some b => rw [hx] at hl; simpa using hl
def tailOk (md : Region.Mode) (ops : Array Oper) (T : List Nat) : Bool := T.all (fun t => (List.range ops.size).all (fun i => T.contains i || waitsFor md ops i 4 t))
theorem tailOk_spec {listed : Array Bool} (h : tailOk md ops T = true) (hc : Closed md ops listed) {t i : Nat} (ht : T.contains t = true) (hi : T.contains i = false) (hlt : i < ops.size) (hr : t ∈ Region.ready md ops listed) : listed.getD i false = true := by
  have h1 := List.all_eq_true.1 (List.all_eq_true.1 h t (by simpa using ht)) i (List.mem_range.2 hlt)
  rw [hi, Bool.false_or] at h1
  obtain ⟨_, ot, hot, hall⟩ := mem_ready.1 hr
  exact waits_listed hc 4 t h1 (fun o ho => by rw [hot] at ho; cases ho; exact hall)
theorem wpAnyT_first {i : Nat} {oi : Oper} {v : Value} (hi : ops[i]? = some oi) (hT : tailOk md ops T = true) (hiT : T.contains i = false) (hsel : ∀ (j : Nat) (o : Oper) cs b, ops[j]? = some o → o.op ≠ .select cs b)
    (hQ : ∀ c a w, Q (.panic c) (a.put oi.dst v) w → Q (.panic c) a w) :
    ∀ (fuel : Nat) (listed : Array Bool) (a : Act) (w : World), Closed md ops listed →
      (∀ j oj, ops[j]? = some oj → j ≠ i → listed.getD j true = false → (∀ e ∈ oj.after, Region.binds md e = true → e.on ≠ i) → oi.apart ops oj = true) →
      i ∈ Region.ready md ops listed → YieldsIf P ops S oi v a → S w →
      wpAnyT P md ops Q S T fuel (listed.setIfInBounds i true) (a.put oi.dst v) w → wpAnyT P md ops Q S T (fuel + 1) listed a w := by
  intro fuel
  induction fuel with
  | zero =>
    intro listed a w _ _ hr hy hS H
    refine ⟨fun h => (by rw [h] at hr; cases hr), fun j hj => ?_⟩
    by_cases hji : j = i
    · subst hji; exact hy.wpOp hi hS ⟨fun _ => hS, H⟩
    · have := ready_mono hj hji
      rw [H.1] at this
      cases this
  | succ fuel ih =>
    intro listed a w hcl hfree hr hy hS H
    refine ⟨fun h => (by rw [h] at hr; cases hr), fun j hj => ?_⟩
    by_cases hji : j = i
    · subst hji; exact hy.wpOp hi hS ⟨fun _ => hS, H⟩
    · have h1 := H.2 j (ready_mono hj hji)
      obtain ⟨hjun, oj, hoj, hall⟩ := mem_ready.1 hj
      have hnl : listed.getD i false ≠ true := fun h1 => by
        have h0 := (mem_ready.1 hr).1
        rcases Nat.lt_or_ge i listed.size with h' | h'
        · simp [h'] at h0 h1; rw [h0] at h1; cases h1
        · simp [Array.getElem?_eq_none h'] at h1
      have hnot : ∀ e ∈ oj.after, Region.binds md e = true → e.on ≠ i := fun e he hb heq => hnl (heq ▸ hall e he hb)
      have hjT : T.contains j = false := by
        cases hc : T.contains j with
        | false => rfl
        | true => exact absurd (tailOk_spec hT hcl hc hiT (Array.getElem?_eq_some_iff.1 hi).1 hj) hnl
      have h2 := wpOp_putIf hoj (hfree j oj hoj hji hjun hnot) (fun cs b => hsel i oi cs b hi) (fun cs b => hsel j oj cs b hoj) hQ hy h1
      have hfree' : ∀ k ok, ops[k]? = some ok → k ≠ i → (listed.setIfInBounds j true).getD k true = false →
          (∀ e ∈ ok.after, Region.binds md e = true → e.on ≠ i) → oi.apart ops ok = true := fun k ok hk hki hun hno => by
        refine hfree k ok hk hki ?_ hno
        by_cases hjk : j = k
        · subst hjk; exact hjun
        · rw [getD_set_ne true hjk] at hun; exact hun
      refine wpOp_mono (fun a' w' h3 => ⟨h3.2.1, ih (listed.setIfInBounds j true) a' w' (closed_set hcl hj) hfree' (ready_mono hr (Ne.symm hji)) h3.1 (h3.2.1 hjT) ?_⟩) h2
      rw [Array.setIfInBounds_comm _ _ hji]
      exact h3.2.2
end tail
abbrev Kind := Option Bool
def wpD (P : Program) (ops : Array Oper) (Q : Exit → Act → World → Prop) (S : World → Prop) : List (Oper × Kind) → Act → World → Prop
  | [], a, w => Q .normal a w
  | (o, some true) :: rest, a, w => ∃ v, YieldsIf P ops S o v a ∧ wpD P ops Q S rest (a.put o.dst v) w
  | (o, some false) :: rest, a, w => if Region.wanted o (yielded ops a.tmps) then o.wp P a w (fun a' w' => S w' ∧ wpD P ops Q S rest a' w') Q else wpD P ops Q S rest (a.put o.dst undef) w
  | (o, none) :: rest, a, w => if Region.wanted o (yielded ops a.tmps) then o.wp P a w (wpD P ops Q S rest) Q else wpD P ops Q S rest (a.put o.dst undef) w
def orderOk (ops : Array Oper) (T : List Nat) : List (Nat × Kind) → Array Bool → Bool
  | [], listed => Region.ready .any ops listed == []
  | (i, some true) :: rest, listed => !T.contains i && Region.free .any ops listed i && (Region.ready .any ops listed).contains i && orderOk ops T rest (listed.setIfInBounds i true)
  | (i, some false) :: rest, listed => Region.ready .any ops listed == [i] && orderOk ops T rest (listed.setIfInBounds i true)
  | (i, none) :: rest, listed => T.contains i && Region.ready .any ops listed == [i] && rest.all (fun x => match x.2 with | none => true | _ => false) && orderOk ops T rest (listed.setIfInBounds i true)
def Blind (Q : Exit → Act → World → Prop) : Prop := ∀ c a d v w, Q (.panic c) (a.put d v) w → Q (.panic c) a w
theorem blind_then {K : Act → World → Prop} {Q : Exit → Act → World → Prop} (h : Blind Q) : Blind (Exit.then K Q) := fun c a d v w hq => h c a d v w hq
theorem blind_block {id : Nat} {Q : Exit → Act → World → Prop} (h : Blind Q) : Blind (Exit.inBlock id Q) := fun c a d v w hq => h c a d v w hq
theorem blind_body {P : Program} {fn : Func} {R : Ending → World → Prop} : Blind (bodyPost P fn R) := fun c a d v w hq => by
  obtain ⟨h1, h2⟩ := hq
  exact ⟨by cases d <;> exact h1, h2⟩
theorem wpT_take {P : Program} {ops : Array Oper} {Q : Exit → Act → World → Prop} {S : World → Prop} {T : List Nat} {i : Nat} {oi : Oper} {v : Value} {fuel : Nat} {listed : Array Bool} {a : Act} {w : World} (hcl : Closed .any ops listed) (hi : ops[i]? = some oi) (hT : tailOk .any ops T = true) (hiT : T.contains i = false)
    (hs : Region.noSelect ops = true) (hf : Region.free .any ops listed i = true) (hr : (Region.ready .any ops listed).contains i = true)
    (hQ : ∀ c a w, Q (.panic c) (a.put oi.dst v) w → Q (.panic c) a w) (hy : YieldsIf P ops S oi v a) (hS : S w)
    (h : wpAnyT P .any ops Q S T fuel (listed.setIfInBounds i true) (a.put oi.dst v) w) : wpAnyT P .any ops Q S T (fuel + 1) listed a w :=
  wpAnyT_first hi hT hiT (Region.noSelect_spec hs) hQ fuel listed a w hcl (Region.free_spec hi hf) (by simpa using hr) hy hS h
theorem wpT_one {P : Program} {ops : Array Oper} {Q : Exit → Act → World → Prop} {S : World → Prop} {T : List Nat} {i : Nat} {fuel : Nat} {listed : Array Bool} {a : Act} {w : World} (hr : Region.ready .any ops listed = [i])
    (h : wpOp P ops Q i (fun a' w' => (T.contains i = false → S w') ∧ wpAnyT P .any ops Q S T fuel (listed.setIfInBounds i true) a' w') a w) : wpAnyT P .any ops Q S T (fuel + 1) listed a w :=
  ⟨fun h0 => (by rw [h0] at hr; cases hr), fun j hj => by rw [hr] at hj; simp only [List.mem_singleton] at hj; subst hj; exact h⟩
theorem wpD_sound {P : Program} {ops : Array Oper} {Q : Exit → Act → World → Prop} (hB : Blind Q) {S : World → Prop} {T : List Nat} (hT : tailOk .any ops T = true) (hs : Region.noSelect ops = true) : ∀ (ord : List (Nat × Kind)) (l : List (Oper × Kind)) (listed : Array Bool) (a : Act) (w : World),
    l.map (fun x => some x.1) = ord.map (fun x => ops[x.1]?) → l.map (·.2) = ord.map (·.2) → orderOk ops T ord listed = true → Closed .any ops listed → (S w ∨ (ord.all (fun x => match x.2 with | none => true | _ => false)) = true) → wpD P ops Q S l a w → wpAnyT P .any ops Q S T ord.length listed a w
  | [], l, listed, a, w, h1, h2, h3, hcl, hS, hw => by
    cases l with
    | nil => exact ⟨by simpa [orderOk] using h3, hw⟩
    | cons x l => simp at h1
  | (i, q) :: ord, [], listed, a, w, h1, h2, h3, hcl, hS, hw => by simp at h1
  | (i, q) :: ord, (o, q') :: l, listed, a, w, h1, h2, h3, hcl, hS, hw => by
    simp only [List.map_cons, List.cons.injEq] at h1 h2
    obtain ⟨ho, h1⟩ := h1
    obtain ⟨rfl, h2⟩ := h2
    match q', h2, h3, hS, hw with
    | some true, h2, h3, hS, hw =>
      simp only [orderOk, Bool.and_eq_true, Bool.not_eq_true'] at h3
      obtain ⟨⟨⟨hiT, hf⟩, hr⟩, h3⟩ := h3
      have hS' : S w := hS.resolve_right (by simp)
      obtain ⟨v, hy, hw⟩ := hw
      have hri : i ∈ Region.ready .any ops listed := by simpa using hr
      exact wpT_take hcl ho.symm hT hiT hs hf hr (fun c a w h => hB c a _ _ w h) hy hS' (wpD_sound hB hT hs ord l _ _ _ h1 h2 h3 (closed_set hcl hri) (.inl hS') hw)
    | some false, h2, h3, hS, hw =>
      simp only [orderOk, Bool.and_eq_true, beq_iff_eq] at h3
      obtain ⟨hr, h3⟩ := h3
      have hS' : S w := hS.resolve_right (by simp)
      have hri : i ∈ Region.ready .any ops listed := by rw [hr]; exact List.mem_cons_self ..
      refine wpT_one hr ?_
      unfold wpOp
      rw [← ho]
      simp only
      unfold wpD at hw
      split
      · rename_i hq
        rw [if_pos hq] at hw
        exact .inl (Oper.wp_mono (fun a w h => ⟨fun _ => h.1, wpD_sound hB hT hs ord l _ _ _ h1 h2 h3 (closed_set hcl hri) (.inl h.1) h.2⟩) hw)
      · rename_i hq
        rw [if_neg hq] at hw
        exact ⟨fun _ => hS', wpD_sound hB hT hs ord l _ _ _ h1 h2 h3 (closed_set hcl hri) (.inl hS') hw⟩
    | none, h2, h3, hS, hw =>
      simp only [orderOk, Bool.and_eq_true, beq_iff_eq] at h3
      obtain ⟨⟨⟨hiT, hr⟩, hall⟩, h3⟩ := h3
      have hri : i ∈ Region.ready .any ops listed := by rw [hr]; exact List.mem_cons_self ..
      refine wpT_one hr ?_
      unfold wpOp
      rw [← ho]
      simp only
      unfold wpD at hw
      split
      · rename_i hq
        rw [if_pos hq] at hw
        exact .inl (Oper.wp_mono (fun a w h => ⟨fun hc => (by rw [hiT] at hc; cases hc), wpD_sound hB hT hs ord l _ _ _ h1 h2 h3 (closed_set hcl hri) (.inr hall) h⟩) hw)
      · rename_i hq
        rw [if_neg hq] at hw
        exact ⟨fun hc => (by rw [hiT] at hc; cases hc), wpD_sound hB hT hs ord l _ _ _ h1 h2 h3 (closed_set hcl hri) (.inr hall) hw⟩
def Drawn (X : World → Prop) : Prop := ∀ w m, X w → X { w with drawn := m }
section region
variable {P : Program} {n : Nat} {L : Env} {X : World → Prop} {Q : Exit → Act → World → Prop} {ops : Array Oper}
theorem c_region {id : Nat} (l : List Oper) (hl : ops = l.toArray) (h : Pre n L X (wpL P ops Q l)) : Pre n L X ((Code.region id ops false).wp P Q) := fun a w k x => by
  subst hl
  refine wp_region ?_
  have := wpL_sound (P := P) (ops := l.toArray) (Q := Q) l 0 (fun j => by simp) a w (h a w k x)
  simpa [List.range_eq_range'] using this
theorem c_draw {id : Nat} {l0 : List Oper} (ord : List (Nat × Kind)) (T : List Nat) (l : List (Oper × Kind)) (S : World → Prop) (hB : Blind Q) (hm : P.follows .mixedOrders = true) (hs : Region.noSelect l0.toArray = true) (hT : tailOk .any l0.toArray T = true) (hl : ord.length = l0.length)
    (h1 : l.map (fun x => some x.1) = ord.map (fun x => l0[x.1]?)) (h2 : l.map (·.2) = ord.map (·.2)) (hok : orderOk l0.toArray T ord (Array.replicate l0.length false) = true)
    (hd : Drawn X) (hS : ∀ w, X w → S w) (h : Pre n L X (wpD P l0.toArray Q S l)) : Pre n L X ((Code.region id l0.toArray true).wp P Q) := fun a w k x => by
  refine wp_region_any hm (wpAny_of_T (S := S) (T := T) _ _ _ _ ?_)
  have h1' : l.map (fun x => some x.1) = ord.map (fun x => l0.toArray[x.1]?) := by simpa using h1
  rw [List.size_toArray, ← hl]
  exact wpD_sound hB hT hs ord l _ a _ h1' h2 (by rw [hl]; exact hok) (by rw [hl]; simpa using closed_none (ops := l0.toArray)) (.inl (hS _ (hd w _ x))) (h a _ k (hd w _ x))
theorem l_nil (h : Pre n L X (Q .normal)) : Pre n L X (wpL P ops Q []) := h
theorem d_nil {S : World → Prop} (h : Pre n L X (Q .normal)) : Pre n L X (wpD P ops Q S []) := h
def QOp (P : Program) (n : Nat) (L : Env) (X : World → Prop) (o : Oper) (v : Value) : Prop := ∀ a w, Know n L a → X w → (execOp a.eval o).run P w = .ok (.value v) w
theorem l_q {o : Oper} {rest : List Oper} {v : Value} {d : Nat} (hd : o.dst = some d) (hq : QOp P n L X o v) (hw : wantL ops L o = some true) (hn : d.blt n = true) (h : Pre n ((d, v) :: L) X (wpL P ops Q rest)) : Pre n L X (wpL P ops Q (o :: rest)) := fun a w k x => by
  unfold wpL
  rw [if_pos (wantL_spec k hw)]
  unfold Oper.wp
  rw [hq a w k x]
  show wpL P ops Q rest (a.put o.dst v) w
  rw [hd]
  exact h _ _ (k.put v hn) x
theorem l_not {o : Oper} {rest : List Oper} {d : Nat} (hd : o.dst = some d) (hw : wantL ops L o = some false) (hn : d.blt n = true) (h : Pre n ((d, undef) :: L) X (wpL P ops Q rest)) : Pre n L X (wpL P ops Q (o :: rest)) := fun a w k x => by
  unfold wpL
  rw [if_neg (by rw [wantL_spec k hw]; simp), hd]
  exact h _ _ (k.put undef hn) x
theorem d_q {S : World → Prop} {o : Oper} {rest : List (Oper × Kind)} {v : Value} {d : Nat} (hd : o.dst = some d) (hq : QOp P n L S o v) (hw : wantL ops L o = some true) (hn : d.blt n = true) (h : Pre n ((d, v) :: L) X (wpD P ops Q S rest)) : Pre n L X (wpD P ops Q S ((o, some true) :: rest)) := fun a w k x => by
  refine ⟨v, Or.inl ⟨wantL_spec k hw, fun w' hS => hq a w' k hS⟩, ?_⟩
  rw [hd]
  exact h _ _ (k.put v hn) x
theorem d_not {S : World → Prop} {o : Oper} {q : Kind} {rest : List (Oper × Kind)} {d : Nat} (hd : o.dst = some d) (hw : wantL ops L o = some false) (hn : d.blt n = true) (h : Pre n ((d, undef) :: L) X (wpD P ops Q S rest)) : Pre n L X (wpD P ops Q S ((o, q) :: rest)) := fun a w k x => by
  match q with
  | some true =>
    refine ⟨undef, Or.inr ⟨wantL_spec k hw, rfl⟩, ?_⟩
    rw [hd]
    exact h _ _ (k.put undef hn) x
  | some false =>
    unfold wpD
    rw [if_neg (by rw [wantL_spec k hw]; simp), hd]
    exact h _ _ (k.put undef hn) x
  | none =>
    unfold wpD
    rw [if_neg (by rw [wantL_spec k hw]; simp), hd]
    exact h _ _ (k.put undef hn) x
def EOp (P : Program) (n : Nat) (L : Env) (X : World → Prop) (o : Oper) (Q : Exit → Act → World → Prop) (K : Act → World → Prop) : Prop := Pre n L X (fun a w => o.wp P a w K Q)
theorem l_e {o : Oper} {rest : List Oper} (hw : wantL ops L o = some true) (h : EOp P n L X o Q (wpL P ops Q rest)) : Pre n L X (wpL P ops Q (o :: rest)) := fun a w k x => by
  unfold wpL
  rw [if_pos (wantL_spec k hw)]
  exact h a w k x
def Held (S : World → Prop) (F : Act → World → Prop) : Act → World → Prop := fun a w => S w ∧ F a w
theorem d_e {S : World → Prop} {o : Oper} {rest : List (Oper × Kind)} (hw : wantL ops L o = some true) (h : EOp P n L X o Q (Held S (wpD P ops Q S rest))) : Pre n L X (wpD P ops Q S ((o, some false) :: rest)) := fun a w k x => by
  unfold wpD
  rw [if_pos (wantL_spec k hw)]
  exact h a w k x
theorem d_t {S : World → Prop} {o : Oper} {rest : List (Oper × Kind)} (hw : wantL ops L o = some true) (h : EOp P n L X o Q (wpD P ops Q S rest)) : Pre n L X (wpD P ops Q S ((o, none) :: rest)) := fun a w k x => by
  unfold wpD
  rw [if_pos (wantL_spec k hw)]
  exact h a w k x
theorem d_held {S : World → Prop} {F : Act → World → Prop} (hS : ∀ w, X w → S w) (h : Pre n L X F) : Pre n L X (Held S F) := fun a w k x => ⟨hS w x, h a w k x⟩
theorem Pre.setB {F : Act → World → Prop} {t : Nat} {b c : Bool} (hl : look L t = some (.bool b)) (e : b = c) (h : Pre n ((t, .bool c) :: L) X F) : Pre n L X F := fun a w k x => h a w (k.sub (Sub.cons (by rw [hl, e]) (fun _ _ h => h))) x
theorem Pre.setV {F : Act → World → Prop} {t : Nat} {b c : Value} (hl : look L t = some b) (e : b = c) (h : Pre n ((t, c) :: L) X F) : Pre n L X F := fun a w k x => h a w (k.sub (Sub.cons (by rw [hl, e]) (fun _ _ h => h))) x
theorem Pre.caseB {F : Act → World → Prop} {b : Bool} (t : Nat) (hl : look L t = some (.bool b)) (h1 : b = true → Pre n ((t, .bool true) :: L) X F) (h2 : b = false → Pre n ((t, .bool false) :: L) X F) : Pre n L X F := by
  cases b with
  | true => exact Pre.setB hl rfl (h1 rfl)
  | false => exact Pre.setB hl rfl (h2 rfl)
end region
section anyH
variable {P : Program} {n : Nat} {L : Env} {X : World → Prop} {Q : Exit → Act → World → Prop} {S : World → Prop} {l : List Oper} {listed : Array Bool} {k : Nat}
theorem c_any {id : Nat} (S : World → Prop) (hm : P.follows .mixedOrders = true) (hd : Drawn X) (h : Pre n L X (wpAnyH P .any l.toArray Q S l.toArray.size (Array.replicate l.toArray.size false))) : Pre n L X ((Code.region id l.toArray true).wp P Q) := fun a w kn x =>
  wp_region_held (S := S) hm (h a _ kn (hd w _ x))
theorem a_q {o : Oper} {v : Value} {d : Nat} (hB : Blind Q) (i : Nat) (hi : l[i]? = some o) (hs : Region.noSelect l.toArray = true) (hf : Region.free .any l.toArray listed i = true) (hr : (Region.ready .any l.toArray listed).contains i = true) (hXS : ∀ w, X w → S w) (hd : o.dst = some d) (hq : QOp P n L S o v) (hw : wantL l.toArray L o = some true) (hn : d.blt n = true)
    (h : Pre n ((d, v) :: L) X (wpAnyH P .any l.toArray Q S k (listed.setIfInBounds i true))) : Pre n L X (wpAnyH P .any l.toArray Q S (k + 1) listed) := fun a w kn x =>
  wpAnyH_take (by rw [List.getElem?_toArray]; exact hi) hs hf hr (fun c a w h => hB c a _ _ w h) (Or.inl ⟨wantL_spec kn hw, fun w' hS => hq a w' kn hS⟩) (hXS w x) (by
    rw [hd]; exact h _ _ (kn.put v hn) x)
abbrev Behind (P : Program) (l : List Oper) (Q : Exit → Act → World → Prop) (S : World → Prop) (k : Nat) (listed : Array Bool) (i : Nat) : Act → World → Prop := Held S (wpAnyH P .any l.toArray Q S k (listed.setIfInBounds i true))
theorem a_op {o : Oper} {i : Nat} (hi : l[i]? = some o) (hw : wantL l.toArray L o = some true) (h : EOp P n L X o Q (Behind P l Q S k listed i)) : Pre n L X (wpOp P l.toArray Q i (fun a' w' => S w' ∧ wpAnyH P .any l.toArray Q S k (listed.setIfInBounds i true) a' w')) := fun a w kn x => by
  unfold wpOp
  rw [List.getElem?_toArray, hi]
  simp only [wantL_spec kn hw, if_true]
  exact .inl (h a w kn x)
theorem a_all1 {o1 : Oper} (i1 : Nat) (hr : Region.ready .any l.toArray listed = [i1]) (h1 : l[i1]? = some o1) (w1 : wantL l.toArray L o1 = some true) (g1 : EOp P n L X o1 Q (Behind P l Q S k listed i1)) : Pre n L X (wpAnyH P .any l.toArray Q S (k + 1) listed) := fun a w kn x =>
  wpAnyH_all hr (by simp) (fun j hj => by simp only [List.mem_cons, List.not_mem_nil, or_false] at hj; subst hj; exact a_op h1 w1 g1 a w kn x)
theorem a_all2 {o1 o2 : Oper} (i1 i2 : Nat) (hr : Region.ready .any l.toArray listed = [i1, i2]) (h1 : l[i1]? = some o1) (h2 : l[i2]? = some o2) (w1 : wantL l.toArray L o1 = some true) (w2 : wantL l.toArray L o2 = some true)
    (g1 : EOp P n L X o1 Q (Behind P l Q S k listed i1)) (g2 : EOp P n L X o2 Q (Behind P l Q S k listed i2)) : Pre n L X (wpAnyH P .any l.toArray Q S (k + 1) listed) := fun a w kn x =>
  wpAnyH_all hr (by simp) (fun j hj => by
    simp only [List.mem_cons, List.not_mem_nil, or_false] at hj
    rcases hj with rfl | rfl
    · exact a_op h1 w1 g1 a w kn x
    · exact a_op h2 w2 g2 a w kn x)
theorem a_all3 {o1 o2 o3 : Oper} (i1 i2 i3 : Nat) (hr : Region.ready .any l.toArray listed = [i1, i2, i3]) (h1 : l[i1]? = some o1) (h2 : l[i2]? = some o2) (h3 : l[i3]? = some o3) (w1 : wantL l.toArray L o1 = some true) (w2 : wantL l.toArray L o2 = some true) (w3 : wantL l.toArray L o3 = some true)
    (g1 : EOp P n L X o1 Q (Behind P l Q S k listed i1)) (g2 : EOp P n L X o2 Q (Behind P l Q S k listed i2)) (g3 : EOp P n L X o3 Q (Behind P l Q S k listed i3)) : Pre n L X (wpAnyH P .any l.toArray Q S (k + 1) listed) := fun a w kn x =>
  wpAnyH_all hr (by simp) (fun j hj => by
    simp only [List.mem_cons, List.not_mem_nil, or_false] at hj
    rcases hj with rfl | rfl | rfl
    · exact a_op h1 w1 g1 a w kn x
    · exact a_op h2 w2 g2 a w kn x
    · exact a_op h3 w3 g3 a w kn x)
theorem a_nil (hr : Region.ready .any l.toArray listed = []) (h : Pre n L X (Q .normal)) : Pre n L X (wpAnyH P .any l.toArray Q S k listed) := fun a w kn x => wpAnyH_done hr (h a w kn x) k
end anyH
end Go.Sep
namespace Go.Sep
section
variable {P : Program} {n : Nat} {L : Env} {X : World → Prop} {o : Oper}
theorem QOp.mk {v : Value} (s : Act → Sem Value) (he : ∀ a, execOp a.eval o = (do pure (.value (← s a)))) (h : ∀ a w, Know n L a → X w → (s a).run P w = .ok v w) : QOp P n L X o v := fun a w k x => by
  rw [he]; simp [h a w k x]
theorem QOp.sub {X' : World → Prop} {v : Value} (h : QOp P n L X o v) (s : ∀ w, X' w → X w) : QOp P n L X' o v := fun a w k x => h a w k (s w x)
theorem q_move {x : Operand} {v : Value} (ho : o.op = .move x) (h : ev L x = some v) : QOp P n L X o v := fun a w k hx => by
  simp only [execOp, ho, k.eval h]; rfl
theorem q_assign {x : Operand} {v : Value} (ho : o.op = .assign x) (h : ev L x = some v) : QOp P n L X o v := fun a w k hx => by
  simp only [execOp, ho, k.eval h]; rfl
theorem q_pick_t {c x y : Operand} {v : Value} (ho : o.op = .pick c x y) (hc : ev L c = some (.bool true)) (h : ev L x = some v) : QOp P n L X o v := fun a w k hx => by
  simp [execOp, ho, k.eval h, k.eval hc, asBool]
theorem q_pick_f {c x y : Operand} {v : Value} (ho : o.op = .pick c x y) (hc : ev L c = some (.bool false)) (h : ev L y = some v) : QOp P n L X o v := fun a w k hx => by
  simp [execOp, ho, k.eval h, k.eval hc, asBool]
theorem q_bin {op : BinOp} {t u : TypeId} {x y : Operand} {vx vy v : Value} (ho : o.op = .binOp op t x y u) (hx : ev L x = some vx) (hy : ev L y = some vy)
    (hr : ∀ w, X w → (do eqGuard op t x y vx vy; binOp op t vx vy : Sem Value).run P w = .ok v w) : QOp P n L X o v := fun a w k x => by
  have h0 := hr w x
  simp only [execOp, ho, k.eval hx, k.eval hy]
  rw [Sem.run_bind, h0]
  rfl
theorem wrap64_in {z : Int} (h : -9223372036854775808 ≤ z ∧ z ≤ 9223372036854775807) : IntKind.i64.wrap z = z := by
  rw [IntKind.wrap_i64]; omega
theorem wrapu8_in {z : Int} (h : 0 ≤ z ∧ z ≤ 255) : IntKind.u8.wrap z = z := by
  simp only [IntKind.wrap, IntKind.signed, IntKind.bits, Bool.false_and, Bool.false_eq_true, if_false]; omega
theorem wrapu64_in {z : Int} (h : 0 ≤ z ∧ z ≤ 18446744073709551615) : IntKind.u64.wrap z = z := by
  simp only [IntKind.wrap, IntKind.signed, IntKind.bits, Bool.false_and, Bool.false_eq_true, if_false]; omega
theorem guardInt {op : BinOp} {t : TypeId} {x y : Operand} {j k : IntKind} {p q : Int} (w : World) : (eqGuard op t x y (.int j p) (.int k q)).run P w = .ok () w := by
  cases op <;> rfl
theorem q_add {t u : TypeId} {x y : Operand} {k : IntKind} {p q : Int} (ho : o.op = .binOp .add t x y u) (hx : ev L x = some (.int k p)) (hy : ev L y = some (.int k q)) : QOp P n L X o (.int k (k.wrap (p + q))) :=
  q_bin ho hx hy (fun w _ => by rw [Sem.run_bind, guardInt]; simp [binOp, Op.intArith])
theorem q_sub {t u : TypeId} {x y : Operand} {k : IntKind} {p q : Int} (ho : o.op = .binOp .sub t x y u) (hx : ev L x = some (.int k p)) (hy : ev L y = some (.int k q)) : QOp P n L X o (.int k (k.wrap (p - q))) :=
  q_bin ho hx hy (fun w _ => by rw [Sem.run_bind, guardInt]; simp [binOp, Op.intArith])
theorem q_mul {t u : TypeId} {x y : Operand} {k : IntKind} {p q : Int} (ho : o.op = .binOp .mul t x y u) (hx : ev L x = some (.int k p)) (hy : ev L y = some (.int k q)) : QOp P n L X o (.int k (k.wrap (p * q))) :=
  q_bin ho hx hy (fun w _ => by rw [Sem.run_bind, guardInt]; simp [binOp, Op.intArith])
theorem q_add64 {t u : TypeId} {x y : Operand} {p q : Int} (ho : o.op = .binOp .add t x y u) (hx : ev L x = some (.int .i64 p)) (hy : ev L y = some (.int .i64 q)) (hb : -9223372036854775808 ≤ p + q ∧ p + q ≤ 9223372036854775807) : QOp P n L X o (.int .i64 (p + q)) := by
  have := q_add (P := P) (n := n) (X := X) ho hx hy; rwa [wrap64_in hb] at this
theorem q_sub64 {t u : TypeId} {x y : Operand} {p q : Int} (ho : o.op = .binOp .sub t x y u) (hx : ev L x = some (.int .i64 p)) (hy : ev L y = some (.int .i64 q)) (hb : -9223372036854775808 ≤ p - q ∧ p - q ≤ 9223372036854775807) : QOp P n L X o (.int .i64 (p - q)) := by
  have := q_sub (P := P) (n := n) (X := X) ho hx hy; rwa [wrap64_in hb] at this
theorem q_mul64 {t u : TypeId} {x y : Operand} {p q : Int} (ho : o.op = .binOp .mul t x y u) (hx : ev L x = some (.int .i64 p)) (hy : ev L y = some (.int .i64 q)) (hb : -9223372036854775808 ≤ p * q ∧ p * q ≤ 9223372036854775807) : QOp P n L X o (.int .i64 (p * q)) := by
  have := q_mul (P := P) (n := n) (X := X) ho hx hy; rwa [wrap64_in hb] at this
theorem q_inc {t u : TypeId} {x y : Operand} {p : Nat} (ho : o.op = .binOp .add t x y u) (hx : ev L x = some (.int .i64 (p : Int))) (hy : ev L y = some (.int .i64 1)) (hb : p < 9223372036854775807) : QOp P n L X o (.int .i64 ((p + 1 : Nat) : Int)) := by
  have := q_add64 (P := P) (n := n) (X := X) ho hx hy (by omega)
  exact this
theorem q_rem {t u : TypeId} {x y : Operand} {k : IntKind} {p q : Int} (ho : o.op = .binOp .rem t x y u) (hx : ev L x = some (.int k p)) (hy : ev L y = some (.int k q)) (hq : q ≠ 0) : QOp P n L X o (.int k (p.tmod q)) :=
  q_bin ho hx hy (fun w _ => by rw [Sem.run_bind, guardInt]; simp [binOp, Op.intDiv, hq])
theorem q_rem_nn {t u : TypeId} {x y : Operand} {k : IntKind} {p q : Int} (ho : o.op = .binOp .rem t x y u) (hx : ev L x = some (.int k p)) (hy : ev L y = some (.int k q)) (hp : 0 ≤ p) (hq : q ≠ 0) : QOp P n L X o (.int k (p % q)) := by
  have := q_rem (P := P) (n := n) (X := X) ho hx hy hq
  rwa [Int.tmod_eq_emod_of_nonneg hp] at this
theorem q_quo {t u : TypeId} {x y : Operand} {k : IntKind} {p q : Int} (ho : o.op = .binOp .quo t x y u) (hx : ev L x = some (.int k p)) (hy : ev L y = some (.int k q)) (hq : q ≠ 0) : QOp P n L X o (.int k (k.wrap (p.tdiv q))) :=
  q_bin ho hx hy (fun w _ => by rw [Sem.run_bind, guardInt]; simp [binOp, Op.intDiv, hq])
theorem q_quo_nn {t u : TypeId} {x y : Operand} {p q : Int} (ho : o.op = .binOp .quo t x y u) (hx : ev L x = some (.int .i64 p)) (hy : ev L y = some (.int .i64 q)) (hp : 0 ≤ p) (hq : 0 < q) (hb : p ≤ 9223372036854775807) : QOp P n L X o (.int .i64 (p / q)) := by
  have := q_quo (P := P) (n := n) (X := X) ho hx hy (by omega)
  have h1 : p / q ≤ p := Int.ediv_le_self q hp
  have h2 : 0 ≤ p / q := Int.ediv_nonneg hp (by omega)
  rw [Int.tdiv_eq_ediv_of_nonneg hp, wrap64_in (by omega)] at this
  exact this
theorem q_eql {t u : TypeId} {x y : Operand} {k : IntKind} {p q : Int} (ho : o.op = .binOp .eql t x y u) (hx : ev L x = some (.int k p)) (hy : ev L y = some (.int k q)) : QOp P n L X o (.bool (decide (p = q))) :=
  q_bin ho hx hy (fun w _ => by rw [Sem.run_bind, guardInt]; simp [binOp, Op.intCmp]; rfl)
theorem q_neq {t u : TypeId} {x y : Operand} {k : IntKind} {p q : Int} (ho : o.op = .binOp .neq t x y u) (hx : ev L x = some (.int k p)) (hy : ev L y = some (.int k q)) : QOp P n L X o (.bool (!decide (p = q))) :=
  q_bin ho hx hy (fun w _ => by rw [Sem.run_bind, guardInt]; simp [binOp, Op.intCmp]; rfl)
theorem q_lss {t u : TypeId} {x y : Operand} {k : IntKind} {p q : Int} (ho : o.op = .binOp .lss t x y u) (hx : ev L x = some (.int k p)) (hy : ev L y = some (.int k q)) : QOp P n L X o (.bool (decide (p < q))) :=
  q_bin ho hx hy (fun w _ => by rw [Sem.run_bind, guardInt]; simp [binOp, Op.intCmp])
theorem q_leq {t u : TypeId} {x y : Operand} {k : IntKind} {p q : Int} (ho : o.op = .binOp .leq t x y u) (hx : ev L x = some (.int k p)) (hy : ev L y = some (.int k q)) : QOp P n L X o (.bool (decide (p ≤ q))) :=
  q_bin ho hx hy (fun w _ => by rw [Sem.run_bind, guardInt]; simp [binOp, Op.intCmp])
theorem q_gtr {t u : TypeId} {x y : Operand} {k : IntKind} {p q : Int} (ho : o.op = .binOp .gtr t x y u) (hx : ev L x = some (.int k p)) (hy : ev L y = some (.int k q)) : QOp P n L X o (.bool (decide (q < p))) :=
  q_bin ho hx hy (fun w _ => by rw [Sem.run_bind, guardInt]; simp [binOp, Op.intCmp])
theorem q_geq {t u : TypeId} {x y : Operand} {k : IntKind} {p q : Int} (ho : o.op = .binOp .geq t x y u) (hx : ev L x = some (.int k p)) (hy : ev L y = some (.int k q)) : QOp P n L X o (.bool (decide (q ≤ p))) :=
  q_bin ho hx hy (fun w _ => by rw [Sem.run_bind, guardInt]; simp [binOp, Op.intCmp])
theorem q_conv {s t : TypeId} {x : Operand} {j k : IntKind} {p : Int} (ho : o.op = .convert s t x) (hs : P.underlying s = some (.int j)) (ht : P.underlying t = some (.int k)) (hx : ev L x = some (.int j p)) : QOp P n L X o (.int k (k.wrap p)) :=
  QOp.mk (fun a => convert s t (a.eval x)) (fun a => by simp [execOp, ho]) (fun a w hk _ => by
    rw [hk.eval hx]; simp [convert, underlying, hs, ht, Conv.intToInt])
theorem q_conv_in {s t : TypeId} {x : Operand} {j k : IntKind} {p : Int} (ho : o.op = .convert s t x) (hs : P.underlying s = some (.int j)) (ht : P.underlying t = some (.int k)) (hx : ev L x = some (.int j p)) (hw : k.wrap p = p) : QOp P n L X o (.int k p) := by
  have := q_conv (P := P) (n := n) (X := X) ho hs ht hx; rwa [hw] at this
theorem q_not {t : TypeId} {x : Operand} {b : Bool} (ho : o.op = .unOp .not t x) (hx : ev L x = some (.bool b)) : QOp P n L X o (.bool (!b)) :=
  QOp.mk (fun a => Op.unary .not (a.eval x)) (fun a => by simp [execOp, ho]) (fun a w hk _ => by rw [hk.eval hx]; simp [Op.unary])
theorem q_max {x y : Operand} {ts : Array TypeId} {k j : IntKind} {p q : Int} (ho : o.op = .call ⟨.builtin .max, #[x, y], ts⟩) (hx : ev L x = some (.int k p)) (hy : ev L y = some (.int j q)) : QOp P n L X o (.int k (if q > p then q else p)) := fun a w hk _ => by
  simp [execOp, ho, resolve, invoke, builtin, hk.eval hx, hk.eval hy, Builtin.max_, Builtin.max2, Result.andThen]
theorem run_und {t : TypeId} {d : TypeDesc} (h : P.underlying t = some d) (w : World) : (underlying t).run P w = .ok d w := by simp [underlying, h]
theorem run_equal {t : TypeId} {x y : Value} {b : Bool} (w : World) (h : ∀ d, (Op.equalIn (d + 1) t x y).run P w = .ok b w) : (Op.equal t x y).run P w = .ok b w := h 9999
theorem run_eqb {t : TypeId} {p q : Bool} (ht : P.underlying t = some .bool) (w : World) : (Op.equal t (.bool p) (.bool q)).run P w = .ok (p == q) w :=
  run_equal w (fun d => by unfold Op.equalIn; simp [run_und ht])
theorem run_eqp {t e : TypeId} {p : Option Addr} (ht : P.underlying t = some (.pointer e)) (w : World) : (Op.equal t (.pointer p) (.pointer none)).run P w = .ok p.isNone w :=
  run_equal w (fun d => by unfold Op.equalIn; cases p <;> simp [run_und ht])
theorem run_eqsl {t e : TypeId} {p : Option Addr} {l c l' c' : Nat} (ht : P.underlying t = some (.slice e)) (w : World) : (Op.equal t (.slice p l c) (.slice none l' c')).run P w = .ok p.isNone w :=
  run_equal w (fun d => by unfold Op.equalIn; cases p <;> simp [run_und ht])
theorem bin_eq {t : TypeId} {x y : Value} {b : Bool} (w : World) (hb : binOp .eql t x y = (do pure (.bool (← Op.equal t x y)))) (h : (Op.equal t x y).run P w = .ok b w) : (binOp .eql t x y).run P w = .ok (.bool b) w := by
  rw [hb]; simp [h]
theorem bin_ne {t : TypeId} {x y : Value} {b : Bool} (w : World) (hb : binOp .neq t x y = (do pure (.bool (!(← Op.equal t x y))))) (h : (Op.equal t x y).run P w = .ok b w) : (binOp .neq t x y).run P w = .ok (.bool (!b)) w := by
  rw [hb]; simp [h]
theorem run_both {α : Type} {x : Sem Unit} {y : Sem α} {v : α} {w : World} (hx : x.run P w = .ok () w) (hy : y.run P w = .ok v w) : (do x; y : Sem α).run P w = .ok v w := by
  rw [Sem.run_bind, hx]; exact hy
theorem q_neb {t u : TypeId} {x y : Operand} {p q : Bool} (ho : o.op = .binOp .neq t x y u) (ht : P.underlying t = some .bool) (hx : ev L x = some (.bool p)) (hy : ev L y = some (.bool q)) : QOp P n L X o (.bool (!(p == q))) :=
  q_bin ho hx hy (fun w _ => run_both rfl (bin_ne w rfl (run_eqb ht w)))
theorem q_eqs {t u : TypeId} {x y : Operand} {p q : ByteArray} (ho : o.op = .binOp .eql t x y u) (hx : ev L x = some (.string p)) (hy : ev L y = some (.string q)) : QOp P n L X o (.bool (p.toList == q.toList)) :=
  q_bin ho hx hy (fun w _ => by simp [eqGuard, binOp, Op.stringOp])
theorem q_eqp {t u e : TypeId} {x y : Operand} {p : Option Addr} (ho : o.op = .binOp .eql t x y u) (ht : P.underlying t = some (.pointer e)) (hx : ev L x = some (.pointer p)) (hy : ev L y = some (.pointer none)) : QOp P n L X o (.bool p.isNone) :=
  q_bin ho hx hy (fun w _ => run_both rfl (bin_eq w rfl (run_eqp ht w)))
theorem q_nep {t u e : TypeId} {x y : Operand} {p : Option Addr} (ho : o.op = .binOp .neq t x y u) (ht : P.underlying t = some (.pointer e)) (hx : ev L x = some (.pointer p)) (hy : ev L y = some (.pointer none)) : QOp P n L X o (.bool (!p.isNone)) :=
  q_bin ho hx hy (fun w _ => run_both rfl (bin_ne w rfl (run_eqp ht w)))
theorem q_eqsl {t u e : TypeId} {x y : Operand} {p : Option Addr} {l c l' c' : Nat} (ho : o.op = .binOp .eql t x y u) (ht : P.underlying t = some (.slice e)) (hx : ev L x = some (.slice p l c)) (hy : ev L y = some (.slice none l' c')) : QOp P n L X o (.bool p.isNone) :=
  q_bin ho hx hy (fun w _ => run_both rfl (bin_eq w rfl (run_eqsl ht w)))
theorem q_extract {x : Operand} {i : Nat} {vs : List Value} {v : Value} (ho : o.op = .extract x i) (hx : ev L x = some (.tuple vs.toArray)) (h : vs[i]? = some v) : QOp P n L X o v :=
  QOp.mk (fun a => Instr.extract (a.eval x) i) (fun a => by simp [execOp, ho]) (fun a w hk _ => by rw [hk.eval hx]; simp [Instr.extract, h])
theorem q_nilCheck {x : Operand} {p : Addr} (ho : o.op = .nilCheck x) (hx : ev L x = some (.pointer (some p))) : QOp P n L X o (.pointer (some p)) := fun a w hk _ => by
  simp only [execOp, ho, hk.eval hx]; rfl
theorem add_none (b f m : Nat) : Addr.add ⟨b, f, none⟩ m = ⟨b, f + m, none⟩ := by
  unfold Addr.add; split
  · next h => subst h; rfl
  · rfl
theorem q_fieldAddr {s : TypeId} {x : Operand} {i b off : Nat} {fs : List Field} {f : Field} {sz : Nat} (ho : o.op = .fieldAddr s x i) (hs : P.underlying s = some (.struct fs.toArray)) (hf : fs[i]? = some f) (hz : ∀ w, (sizeOf f.type).run P w = .ok sz w) (hnz : sz.beq 0 = false)
    (hx : ev L x = some (.pointer (some ⟨b, off, none⟩))) : QOp P n L X o (.pointer (some ⟨b, off + f.offset, none⟩)) :=
  QOp.mk (fun a => Instr.fieldAt s (a.eval x) i) (fun a => by simp [execOp, ho]) (fun a w hk _ => by
    have : sz ≠ 0 := fun e => by subst e; cases hnz
    rw [hk.eval hx]; simp [Instr.fieldAt, run_und hs, hf, Instr.sureAddr, fieldPlace, hz, this, add_none])
theorem q_indexAddr {t e : TypeId} {x i : Operand} {b off len cap sz : Nat} {k : IntKind} {p : Int} (j : Nat) (ho : o.op = .indexAddr t x i) (ht : P.underlying t = some (.slice e)) (hz : ∀ w, (sizeOf e).run P w = .ok sz w)
    (hx : ev L x = some (.slice (some ⟨b, off, none⟩) len cap)) (hi : ev L i = some (.int k p)) (hp : p = (j : Int)) (hj : j < len) : QOp P n L X o (.pointer (some ⟨b, off + j * sz, none⟩)) :=
  QOp.mk (fun a => Instr.indexAt t (a.eval x) (a.eval i)) (fun a => by simp [execOp, ho]) (fun a w hk _ => by
    subst hp
    have h1 : (0 : Int) ≤ (j : Int) ∧ (j : Int) < (len : Int) := by omega
    rw [hk.eval hx, hk.eval hi]; simp [Instr.indexAt, asIntOf, run_und ht, hz, hj, add_none])
theorem q_indexArr {t e : TypeId} {x i : Operand} {b off len sz : Nat} {k : IntKind} {p : Int} (j : Nat) (ho : o.op = .indexAddr t x i) (ht : P.underlying t = some (.array len e)) (hz : ∀ w, (sizeOf e).run P w = .ok sz w)
    (hx : ev L x = some (.pointer (some ⟨b, off, none⟩))) (hi : ev L i = some (.int k p)) (hp : p = (j : Int)) (hj : j < len) : QOp P n L X o (.pointer (some ⟨b, off + j * sz, none⟩)) :=
  QOp.mk (fun a => Instr.indexAt t (a.eval x) (a.eval i)) (fun a => by simp [execOp, ho]) (fun a w hk _ => by
    subst hp
    have h1 : (0 : Int) ≤ (j : Int) ∧ (j : Int) < (len : Int) := by omega
    rw [hk.eval hx, hk.eval hi]; simp [Instr.indexAt, asIntOf, run_und ht, hz, hj, Instr.sureAddr, add_none])
theorem q_field {t : TypeId} {x : Operand} {i : Nat} {fs : List Field} {f : Field} {cs : List Value} {v : Value} (ho : o.op = .field t x i) (hs : P.underlying t = some (.struct fs.toArray)) (hf : fs[i]? = some f) (hg : ∀ w, (isAgg f.type).run P w = .ok false w)
    (hx : ev L x = some (.agg cs.toArray)) (h : cs[f.offset]? = some v) : QOp P n L X o v :=
  QOp.mk (fun a => Instr.field t (a.eval x) i) (fun a => by simp [execOp, ho]) (fun a w hk _ => by
    rw [hk.eval hx]; simp [Instr.field, run_und hs, hf, part, hg, asAgg, h])
theorem q_len {x : Operand} {t e : TypeId} {p : Option Addr} {l c : Nat} (ho : o.op = .call ⟨.builtin .len, #[x], #[t]⟩) (ht : P.underlying t = some (.slice e)) (hx : ev L x = some (.slice p l c)) : QOp P n L X o (.int .i64 (l : Int)) := fun a w hk _ => by
  simp [execOp, ho, resolve, invoke, builtin, hk.eval hx, Builtin.len_, run_und ht, Result.andThen, goInt]
theorem q_lenS {x : Operand} {t : TypeId} {s : ByteArray} (ho : o.op = .call ⟨.builtin .len, #[x], #[t]⟩) (ht : P.underlying t = some .string) (hx : ev L x = some (.string s)) : QOp P n L X o (.int .i64 (s.size : Int)) := fun a w hk _ => by
  simp [execOp, ho, resolve, invoke, builtin, hk.eval hx, Builtin.len_, run_und ht, Result.andThen, goInt]
theorem q_cap {x : Operand} {t e : TypeId} {p : Option Addr} {l c : Nat} (ho : o.op = .call ⟨.builtin .cap, #[x], #[t]⟩) (ht : P.underlying t = some (.slice e)) (hx : ev L x = some (.slice p l c)) : QOp P n L X o (.int .i64 (c : Int)) := fun a w hk _ => by
  simp [execOp, ho, resolve, invoke, builtin, hk.eval hx, Builtin.cap_, run_und ht, Result.andThen, goInt]
theorem q_makeFunc {fn : Fn} {fs cs : Array Operand} {vs us : Array Value} (f : FuncId) (ho : o.op = .makeFunc (.func f) fs cs) (h1 : ∀ a, Know n L a → fs.map a.eval = vs) (h2 : ∀ a, Know n L a → cs.map a.eval = us) : QOp P n L X o (.func (.func f) vs us) :=
  QOp.mk (fun a => Instr.makeFunc (.func f) (fs.map a.eval) (cs.map a.eval)) (fun a => by simp [execOp, ho]) (fun a w hk _ => by
    rw [h1 a hk, h2 a hk]; rfl)
theorem run_bound {x : Value} {y j : Nat} {c : BoundsCode} {k : IntKind} (w : World) (hx : x = .int k (j : Int)) (hj : j ≤ y) : (Instr.sliceBound x y c).run P w = .ok j w := by
  subst hx
  have : (0 : Int) ≤ (j : Int) ∧ (j : Int) ≤ (y : Int) := by omega
  simp [Instr.sliceBound, asIntOf, hj]
theorem q_sliceL {t e : TypeId} {x lo : Operand} {b off len cap sz : Nat} {k : IntKind} {zl : Int} (l : Nat) (ho : o.op = .slice t x (some lo) none none) (ht : P.underlying t = some (.slice e)) (hz : ∀ w, (sizeOf e).run P w = .ok sz w)
    (hx : ev L x = some (.slice (some ⟨b, off, none⟩) len cap)) (hlo : ev L lo = some (.int k zl)) (el : zl = (l : Int)) (h1 : l ≤ len) :
    QOp P n L X o (.slice (some ⟨b, off + (if cap = l then 0 else l * sz), none⟩) (len - l) (cap - l)) :=
  QOp.mk (fun a => Instr.sliceAt t (a.eval x) (some (a.eval lo)) none none) (fun a => by simp [execOp, ho]) (fun a w hk _ => by
    subst el
    rw [hk.eval hx, hk.eval hlo]
    simp only [Instr.sliceAt, Instr.slice, Instr.sliceBounds, Sem.run_bind, run_und ht, Result.andThen_ok, Sem.run_pure, run_bound (P := P) w rfl h1, hz]
    by_cases he : cap = l
    · simp [he]
    · simp [he, add_none])
theorem q_sliceH {t e : TypeId} {x hi : Operand} {p : Option Addr} {len cap sz : Nat} {k : IntKind} {zh : Int} (h : Nat) (ho : o.op = .slice t x none (some hi) none) (ht : P.underlying t = some (.slice e)) (hz : ∀ w, (sizeOf e).run P w = .ok sz w)
    (hx : ev L x = some (.slice p len cap)) (hhi : ev L hi = some (.int k zh)) (eh : zh = (h : Int)) (h2 : h ≤ cap) :
    QOp P n L X o (.slice p h cap) :=
  QOp.mk (fun a => Instr.sliceAt t (a.eval x) none (some (a.eval hi)) none) (fun a => by simp [execOp, ho]) (fun a w hk _ => by
    subst eh
    rw [hk.eval hx, hk.eval hhi]
    simp only [Instr.sliceAt, Instr.slice, Instr.sliceBounds, Sem.run_bind, run_und ht, Result.andThen_ok, Sem.run_pure, run_bound (P := P) w rfl h2, hz]
    cases p <;> simp [Addr.add])
theorem q_sliceArrH {t e : TypeId} {x hi : Operand} {b off len sz : Nat} {k : IntKind} {zh : Int} (h : Nat) (ho : o.op = .slice t x none (some hi) none) (ht : P.underlying t = some (.array len e)) (hz : ∀ w, (sizeOf e).run P w = .ok sz w)
    (hx : ev L x = some (.pointer (some ⟨b, off, none⟩))) (hhi : ev L hi = some (.int k zh)) (eh : zh = (h : Int)) (h2 : h ≤ len) :
    QOp P n L X o (.slice (some ⟨b, off, none⟩) h len) :=
  QOp.mk (fun a => Instr.sliceAt t (a.eval x) none (some (a.eval hi)) none) (fun a => by simp [execOp, ho]) (fun a w hk _ => by
    subst eh
    rw [hk.eval hx, hk.eval hhi]
    simp only [Instr.sliceAt, Instr.sureAddr, Instr.sliceBounds, Sem.run_bind, run_und ht, Result.andThen_ok, Sem.run_pure, run_bound (P := P) w rfl h2, hz]
    simp [Addr.add])
theorem q_sliceArr {t e : TypeId} {x : Operand} {b off len sz : Nat} (ho : o.op = .slice t x none none none) (ht : P.underlying t = some (.array len e)) (hz : ∀ w, (sizeOf e).run P w = .ok sz w)
    (hx : ev L x = some (.pointer (some ⟨b, off, none⟩))) :
    QOp P n L X o (.slice (some ⟨b, off, none⟩) len len) :=
  QOp.mk (fun a => Instr.sliceAt t (a.eval x) none none none) (fun a => by simp [execOp, ho]) (fun a w hk _ => by
    rw [hk.eval hx]
    simp only [Instr.sliceAt, Instr.sureAddr, Instr.sliceBounds, Sem.run_bind, run_und ht, Result.andThen_ok, Sem.run_pure, hz]
    simp [Addr.add])
theorem q_load {t : TypeId} {x : Operand} {b off : Nat} {v : Value} (ho : o.op = .load t x) (hg : ∀ w, (isAgg t).run P w = .ok false w) (hx : ev L x = some (.pointer (some ⟨b, off, none⟩)))
    (hc : ∀ w, X w → w.cell? ⟨b, off, none⟩ = some v) : QOp P n L X o v :=
  QOp.mk (fun a => Instr.loadAt t (a.eval x)) (fun a => by simp [execOp, ho]) (fun a w hk hX => by
    rw [hk.eval hx]; simp [Instr.loadAt, Instr.sureAddr, loadVar, hg, hc w hX])
theorem run_loadCells (b off : Nat) (w : World) : ∀ (m i : Nat) (vs : List Value) (acc : Array Value), vs.length = m → (∀ (j : Nat) (v : Value), vs[j]? = some v → w.cell? ⟨b, off + (i + j), none⟩ = some v) →
    (loadCellsFrom ⟨b, off, none⟩ i m acc).run P w = .ok (acc ++ vs.toArray) w
  | 0, i, vs, acc, hl, h => by
    have : vs = [] := List.length_eq_zero_iff.1 hl
    subst this; simp [loadCellsFrom]
  | m + 1, i, [], acc, hl, h => by simp at hl
  | m + 1, i, u :: vs, acc, hl, h => by
    have h0 := h 0 u rfl
    rw [Nat.add_zero] at h0
    simp only [loadCellsFrom, Sem.run_bind, add_none]
    rw [run_load]
    simp only [h0, Result.andThen_ok]
    rw [run_loadCells b off w m (i + 1) vs _ (by simpa using hl) (fun j v hj => by
      have := h (j + 1) v (by simpa using hj)
      rwa [show off + (i + (j + 1)) = off + (i + 1 + j) from by omega] at this)]
    simp
theorem q_loadAgg {t : TypeId} {x : Operand} {b off sz : Nat} {vs : List Value} (ho : o.op = .load t x) (hg : ∀ w, (isAgg t).run P w = .ok true w) (hz : ∀ w, (sizeOf t).run P w = .ok sz w) (hx : ev L x = some (.pointer (some ⟨b, off, none⟩))) (hl : vs.length = sz)
    (hc : ∀ w, X w → ∀ (j : Nat) (v : Value), vs[j]? = some v → w.cell? ⟨b, off + j, none⟩ = some v) : QOp P n L X o (.agg vs.toArray) :=
  QOp.mk (fun a => Instr.loadAt t (a.eval x)) (fun a => by simp [execOp, ho]) (fun a w hk hX => by
    rw [hk.eval hx]
    have := run_loadCells (P := P) b off w sz 0 vs #[] hl (fun j v hj => by rw [Nat.zero_add]; exact hc w hX j v hj)
    simp [Instr.loadAt, Instr.sureAddr, loadVar, hg, hz, loadCells, this])
end
end Go.Sep
namespace Go.Sep
open Go.RowKit
structure Ent where
  b : Option Nat
  φ : Option Obj → Prop
def Ent.at (e : Ent) (w : World) : Prop := e.φ (e.b.bind (w.heap[·]?))
def dom (H : List Ent) : List Nat := H.filterMap Ent.b
structure HP (H : List Ent) (w : World) : Prop where
  holds : ∀ e ∈ H, e.at w
  nodup : (dom H).Nodup
  lt : ∀ b ∈ dom H, b < w.heap.size
structure Keep (w0 : World) (D : List Nat) (w : World) : Prop where
  os : w.os = w0.os
  tape : w.tape = w0.tape
  output : w.output = w0.output
  size : w0.heap.size ≤ w.heap.size
  block : ∀ b, b < w0.heap.size → b ∉ D → w.heap[b]? = w0.heap[b]?
structure St (w0 : World) (D : List Nat) (H : List Ent) (w : World) : Prop where
  hp : HP H w
  dom : ∀ b ∈ dom H, b ∈ D ∨ w0.heap.size ≤ b
  keep : Keep w0 D w
theorem Keep.refl (w : World) (D : List Nat) : Keep w D w := ⟨rfl, rfl, rfl, Nat.le_refl _, fun _ _ _ => rfl⟩
theorem Keep.trans {a b c : World} {D D' : List Nat} (h : Keep a D b) (h' : Keep b D' c) (hs : ∀ k, k ∈ D' → k < a.heap.size → k ∈ D) : Keep a D c :=
  ⟨h'.os.trans h.os, h'.tape.trans h.tape, h'.output.trans h.output, Nat.le_trans h.size h'.size, fun k hk hD => (h'.block k (Nat.lt_of_lt_of_le hk h.size) (fun e => hD (hs k e hk))).trans (h.block k hk hD)⟩
theorem Keep.below {w0 w : World} (h : Keep w0 [] w) : Below w0.heap.size w0 w := ⟨h.os, h.tape, h.output, h.size, fun k hk => h.block k hk (by simp)⟩
theorem St.below {w0 w : World} {H : List Ent} (h : St w0 [] H w) : Below w0.heap.size w0 w := h.keep.below
theorem St.init {H : List Ent} {w : World} (h : HP H w) : St w (Sep.dom H) H w := ⟨h, fun b hb => .inl hb, Keep.refl _ _⟩
theorem HP.nil (w : World) : HP [] w := ⟨fun e h => (by cases h), List.nodup_nil, fun b h => (by cases h)⟩
theorem St.nil (w : World) : St w [] [] w := St.init (HP.nil w)
theorem Ent.at_congr {e : Ent} {w w' : World} (h : ∀ b, e.b = some b → w'.heap[b]? = w.heap[b]?) (he : e.at w) : e.at w' := by
  unfold Ent.at at *
  cases hb : e.b with
  | none => rw [hb] at he; exact he
  | some b => rw [hb] at he; simpa [h b hb] using he
theorem St.drawn {w0 : World} {D : List Nat} {H : List Ent} : Drawn (St w0 D H) := fun w m h =>
  ⟨⟨fun e he => Ent.at_congr (fun _ _ => rfl) (h.hp.holds e he), h.hp.nodup, h.hp.lt⟩, h.dom, ⟨h.keep.os, h.keep.tape, h.keep.output, h.keep.size, h.keep.block⟩⟩
theorem St.drew {w0 : World} {D : List Nat} {H : List Ent} {w : World} (h : St w0 D H w) : St w0 D H w.drew := St.drawn w _ h
theorem St.at {w0 : World} {D : List Nat} {H : List Ent} {w : World} {e : Ent} (h : St w0 D H w) (i : Nat) (hi : H[i]? = some e) : e.at w := h.hp.holds e (List.mem_of_getElem? hi)
theorem St.sublist {w0 : World} {D : List Nat} {H H' : List Ent} {w : World} (s : H'.Sublist H) (h : St w0 D H w) : St w0 D H' w :=
  ⟨⟨fun e he => h.hp.holds e (s.subset he), h.hp.nodup.sublist (s.filterMap _), fun b hb => h.hp.lt b ((s.filterMap _).subset hb)⟩, fun b hb => h.dom b ((s.filterMap _).subset hb), h.keep⟩
theorem St.perm {w0 : World} {D : List Nat} {H H' : List Ent} {w : World} (s : H.Perm H') (h : St w0 D H w) : St w0 D H' w :=
  ⟨⟨fun e he => h.hp.holds e (s.mem_iff.2 he), (s.filterMap _).nodup_iff.1 h.hp.nodup, fun b hb => h.hp.lt b ((s.filterMap _).mem_iff.2 hb)⟩, fun b hb => h.dom b ((s.filterMap _).mem_iff.2 hb), h.keep⟩
theorem St.drop {w0 : World} {D : List Nat} {e : Ent} {H : List Ent} {w : World} (h : St w0 D (e :: H) w) : St w0 D H w := h.sublist (List.sublist_cons_self _ _)
theorem St.cut {w0 : World} {D : List Nat} {H T : List Ent} {w : World} (h : St w0 D (H ++ T) w) : St w0 D H w := h.sublist (List.sublist_append_left _ _)
theorem St.nothing {w0 : World} {D : List Nat} {H : List Ent} {w : World} (h : St w0 D H w) : St w0 D [] w := h.sublist (List.nil_sublist _)
theorem St.head {w0 : World} {D : List Nat} {e e' : Ent} {H : List Ent} {w : World} (h : St w0 D (e :: H) w) (hb : e'.b = e.b) (hi : e.at w → e'.at w) : St w0 D (e' :: H) w := by
  have hd : Sep.dom (e' :: H) = Sep.dom (e :: H) := by simp only [Sep.dom, List.filterMap_cons, hb]
  refine ⟨⟨fun x hx => ?_, hd ▸ h.hp.nodup, hd ▸ h.hp.lt⟩, hd ▸ h.dom, h.keep⟩
  rcases List.mem_cons.1 hx with rfl | hx
  · exact hi (h.hp.holds e (List.mem_cons_self ..))
  · exact h.hp.holds x (List.mem_cons_of_mem _ hx)
theorem St.free {w0 : World} {D : List Nat} {e e' : Ent} {H : List Ent} {w : World} (h : St w0 D (e :: H) w) (hb : e'.b = Option.none) (hi : e'.at w) : St w0 D (e' :: H) w := by
  have h1 := h.drop
  have hd : Sep.dom (e' :: H) = Sep.dom H := by simp only [Sep.dom, List.filterMap_cons, hb]
  refine ⟨⟨fun x hx => ?_, hd ▸ h1.hp.nodup, hd ▸ h1.hp.lt⟩, hd ▸ h1.dom, h1.keep⟩
  rcases List.mem_cons.1 hx with rfl | hx
  · exact hi
  · exact h1.hp.holds x hx
theorem St.add {w0 : World} {D : List Nat} {e' : Ent} {H : List Ent} {w : World} (h1 : St w0 D H w) (hb : e'.b = Option.none) (hi : e'.at w) : St w0 D (e' :: H) w := by
  have hd : Sep.dom (e' :: H) = Sep.dom H := by simp only [Sep.dom, List.filterMap_cons, hb]
  refine ⟨⟨fun x hx => ?_, hd ▸ h1.hp.nodup, hd ▸ h1.hp.lt⟩, hd ▸ h1.dom, h1.keep⟩
  rcases List.mem_cons.1 hx with rfl | hx
  · exact hi
  · exact h1.hp.holds x hx
theorem St.alloc {w0 : World} {D : List Nat} {H : List Ent} {w : World} {o : Obj} {φ : Option Obj → Prop} (h : St w0 D H w) (hφ : φ (some o)) : St w0 D (⟨some w.heap.size, φ⟩ :: H) (w.alloc o) := by
  have hold : ∀ b, b < w.heap.size → (w.alloc o).heap[b]? = w.heap[b]? := fun b hb => Below.heap_alloc w o b hb
  have hnew : (w.alloc o).heap[w.heap.size]? = some o := by show (w.heap.push o)[_]? = _; simp
  have hsz : (w.alloc o).heap.size = w.heap.size + 1 := Array.size_push ..
  refine ⟨⟨fun e he => ?_, ?_, ?_⟩, ?_, ⟨h.keep.os, h.keep.tape, h.keep.output, Nat.le_trans h.keep.size (by rw [hsz]; omega), fun b hb hD => (hold b (Nat.lt_of_lt_of_le hb h.keep.size)).trans (h.keep.block b hb hD)⟩⟩
  · rcases List.mem_cons.1 he with rfl | he
    · show φ ((w.alloc o).heap[w.heap.size]?); rw [hnew]; exact hφ
    · exact Ent.at_congr (fun b hb => hold b (h.hp.lt b (List.mem_filterMap.2 ⟨e, he, hb⟩))) (h.hp.holds e he)
  · show (w.heap.size :: Sep.dom H).Nodup
    exact List.nodup_cons.2 ⟨fun hm => absurd (h.hp.lt _ hm) (Nat.lt_irrefl _), h.hp.nodup⟩
  · intro b hb
    have hb' : b = w.heap.size ∨ b ∈ Sep.dom H := List.mem_cons.1 hb
    show b < (w.heap.push o).size
    rw [Array.size_push]
    rcases hb' with rfl | hb'
    · omega
    · have := h.hp.lt b hb'; omega
  · intro b hb
    have hb' : b = w.heap.size ∨ b ∈ Sep.dom H := List.mem_cons.1 hb
    rcases hb' with rfl | hb'
    · exact .inr h.keep.size
    · exact h.dom b hb'
theorem St.write {w0 : World} {D : List Nat} {H : List Ent} {w w' : World} {b : Nat} {φ φ' : Option Obj → Prop} (h : St w0 D (⟨some b, φ⟩ :: H) w) (hos : w'.os = w.os) (ht : w'.tape = w.tape) (ho : w'.output = w.output) (hs : w'.heap.size = w.heap.size)
    (hb : ∀ k, k ≠ b → w'.heap[k]? = w.heap[k]?) (hφ : φ' w'.heap[b]?) : St w0 D (⟨some b, φ'⟩ :: H) w' := by
  have hnd : b ∉ Sep.dom H ∧ (Sep.dom H).Nodup := List.nodup_cons.1 h.hp.nodup
  refine ⟨⟨fun e he => ?_, h.hp.nodup, fun k hk => hs ▸ h.hp.lt k hk⟩, h.dom, ⟨hos.trans h.keep.os, ht.trans h.keep.tape, ho.trans h.keep.output, hs ▸ h.keep.size, fun k hk hD => ?_⟩⟩
  · rcases List.mem_cons.1 he with rfl | he'
    · exact hφ
    · refine Ent.at_congr (fun k hk => hb k ?_) (h.hp.holds e (List.mem_cons_of_mem _ he'))
      rintro rfl
      exact hnd.1 (List.mem_filterMap.2 ⟨e, he', hk⟩)
  · refine (hb k ?_).trans (h.keep.block k hk hD)
    rintro rfl
    rcases h.dom k (List.mem_cons_self ..) with hd | hd
    · exact hD hd
    · omega
def Con (P : Program) (f : FuncId) (vs : List Value) (E : World → Prop) (H : List Ent) {β : Type} (v : β → Value) (p : β → Prop) (H' : β → List Ent) : Prop :=
  ∀ w, E w → HP H w → Calls P f vs.toArray w (fun e w' => ∃ b, e = .returned (v b) ∧ p b ∧ St w (dom H) (H' b) w')
theorem Con.frame {P : Program} {f : FuncId} {vs : List Value} {E : World → Prop} {H : List Ent} {β : Type} {v : β → Value} {p : β → Prop} {H' : β → List Ent} (s : Con P f vs E H v p H') {w0 : World} {D : List Nat} {F : List Ent} {w : World}
    (h : St w0 D (H ++ F) w) (hE : E w) : Calls P f vs.toArray w (fun e w' => ∃ b, e = .returned (v b) ∧ p b ∧ St w0 D (H' b ++ F) w') := by
  refine (s w hE h.cut.hp).mono ?_
  rintro e w' ⟨b, he, hp, h'⟩
  refine ⟨b, he, hp, ?_⟩
  have hdom : ∀ A B : List Ent, Sep.dom (A ++ B) = Sep.dom A ++ Sep.dom B := fun A B => List.filterMap_append
  have hnd := h.hp.nodup
  rw [hdom, List.nodup_append] at hnd
  obtain ⟨n1, n2, n3⟩ := hnd
  have hF : ∀ k ∈ Sep.dom F, k < w.heap.size ∧ k ∉ Sep.dom H := fun k hk => ⟨h.hp.lt k (by rw [hdom]; exact List.mem_append_right _ hk), fun hk' => n3 _ hk' _ hk rfl⟩
  refine ⟨⟨fun x hx => ?_, ?_, fun k hk => ?_⟩, fun k hk => ?_, h.keep.trans h'.keep (fun k hk hlt => ?_)⟩
  · rcases List.mem_append.1 hx with hx | hx
    · exact h'.hp.holds x hx
    · refine Ent.at_congr (fun k hk => ?_) (h.hp.holds x (List.mem_append_right _ hx))
      have := hF k (List.mem_filterMap.2 ⟨x, hx, hk⟩)
      exact h'.keep.block k this.1 this.2
  · rw [hdom, List.nodup_append]
    refine ⟨h'.hp.nodup, n2, fun k hk j hj e => ?_⟩
    subst e
    have := hF k hj
    rcases h'.dom k hk with hd | hd
    · exact this.2 hd
    · omega
  · rw [hdom] at hk
    rcases List.mem_append.1 hk with hk | hk
    · exact h'.hp.lt k hk
    · exact Nat.lt_of_lt_of_le (hF k hk).1 h'.keep.size
  · rw [hdom] at hk
    rcases List.mem_append.1 hk with hk | hk
    · rcases h'.dom k hk with hd | hd
      · exact h.dom k (by rw [hdom]; exact List.mem_append_left _ hd)
      · exact .inr (Nat.le_trans h.keep.size hd)
    · exact h.dom k (by rw [hdom]; exact List.mem_append_right _ hk)
  · rcases h.dom k (by rw [hdom]; exact List.mem_append_left _ hk) with hd | hd
    · exact hd
    · omega
def cellsE (b : Nat) (t : TypeId) (cs : List Value) : Ent := ⟨some b, fun o => o = some (.cells cs.toArray t (0, 0))⟩
theorem cellsE_cell {b : Nat} {t : TypeId} {cs : List Value} {w : World} (h : (cellsE b t cs).at w) {off : Nat} {v : Value} (hv : cs[off]? = some v) : w.cell? ⟨b, off, none⟩ = some v := by
  have h' : w.heap[b]? = some (.cells cs.toArray t (0, 0)) := h
  unfold World.cell?
  simp only [h']
  simpa using hv
theorem cellsE_free {b : Nat} {t : TypeId} {cs : List Value} {w : World} (h : (cellsE b t cs).at w) (off : Nat) : w.frozen? ⟨b, off, none⟩ = false := by
  have h' : w.heap[b]? = some (.cells cs.toArray t (0, 0)) := h
  unfold World.frozen?
  simp only [h']
  simp
structure Enc (α : Type) where
  sz : Nat
  f : α → List Value
  len : ∀ a, (f a).length = sz
  one : ∀ a u, u ∈ f a → u.oneCell' = true
  pos : 0 < sz
def encI (k : IntKind) : Enc Int := ⟨1, fun z => [.int k z], fun _ => rfl, fun a u h => by simp at h; subst h; rfl, by decide⟩
def encB : Enc Bool := ⟨1, fun z => [.bool z], fun _ => rfl, fun a u h => by simp at h; subst h; rfl, by decide⟩
def encS : Enc ByteArray := ⟨1, fun z => [.string z], fun _ => rfl, fun a u h => by simp at h; subst h; rfl, by decide⟩
section flat
variable {α : Type} (E : Enc α)
def Enc.flat (l : List α) : List Value := l.flatMap E.f
theorem Enc.flat_nil : E.flat [] = [] := rfl
theorem Enc.flat_cons (a : α) (l : List α) : E.flat (a :: l) = E.f a ++ E.flat l := rfl
theorem Enc.flat_append (l m : List α) : E.flat (l ++ m) = E.flat l ++ E.flat m := List.flatMap_append
theorem Enc.flat_len : ∀ l : List α, (E.flat l).length = l.length * E.sz
  | [] => by simp [Enc.flat_nil]
  | a :: l => by rw [E.flat_cons, List.length_append, E.len, Enc.flat_len l, List.length_cons, Nat.add_mul]; omega
theorem Enc.flat_one (l : List α) (u : Value) (h : u ∈ E.flat l) : u.oneCell' = true := by
  obtain ⟨a, _, hu⟩ := List.mem_flatMap.1 h
  exact E.one a u hu
theorem Enc.flat_get : ∀ (l : List α) (j k : Nat) (a : α) (u : Value), l[j]? = some a → (E.f a)[k]? = some u → (E.flat l)[j * E.sz + k]? = some u
  | [], j, k, a, u, h, hk => by simp at h
  | c :: l, 0, k, a, u, h, hk => by
    simp at h; subst h
    rw [E.flat_cons, Nat.zero_mul, Nat.zero_add, List.getElem?_append_left (by have := (List.getElem?_eq_some_iff.1 hk).1; exact this)]
    exact hk
  | c :: l, j + 1, k, a, u, h, hk => by
    have h' : l[j]? = some a := by simpa using h
    rw [E.flat_cons, List.getElem?_append_right (by rw [E.len, Nat.add_mul]; omega), E.len]
    rw [show (j + 1) * E.sz + k - E.sz = j * E.sz + k from by rw [Nat.add_mul]; omega]
    exact Enc.flat_get l j k a u h' hk
theorem Enc.flat_take : ∀ (l : List α) (j : Nat), (E.flat l).take (j * E.sz) = E.flat (l.take j)
  | [], j => by simp [Enc.flat_nil]
  | c :: l, 0 => by simp [Enc.flat_nil]
  | c :: l, j + 1 => by
    rw [E.flat_cons, List.take_succ_cons, E.flat_cons, Nat.add_mul, Nat.one_mul, Nat.add_comm, ← E.len c, List.take_length_add_append, E.len, Enc.flat_take l j]
theorem Enc.flat_drop : ∀ (l : List α) (j : Nat), (E.flat l).drop (j * E.sz) = E.flat (l.drop j)
  | [], j => by simp [Enc.flat_nil]
  | c :: l, 0 => by simp
  | c :: l, j + 1 => by
    rw [E.flat_cons, List.drop_succ_cons, Nat.add_mul, Nat.one_mul, Nat.add_comm, ← E.len c, List.drop_length_add_append, E.len, Enc.flat_drop l j]
theorem set_mid {β : Type} (p q : List β) (x : β) (k : Nat) (h : k < q.length) : (p ++ q).set (p.length + k) x = p ++ q.set k x := by
  rw [List.set_append_right _ _ (by omega)]
  congr 2
  omega
theorem Enc.flat_set : ∀ (l : List α) (j k : Nat) (a : α) (c : α) (u : Value), l[j]? = some a → k < E.sz → (E.f a).set k u = E.f c → (E.flat l).set (j * E.sz + k) u = E.flat (l.set j c)
  | [], j, k, a, c, u, h, hk, hs => by simp at h
  | d :: l, 0, k, a, c, u, h, hk, hs => by
    simp at h; subst h
    rw [E.flat_cons, List.set_cons_zero, E.flat_cons, Nat.zero_mul, Nat.zero_add, List.set_append_left _ _ (by rw [E.len]; exact hk), hs]
  | d :: l, j + 1, k, a, c, u, h, hk, hs => by
    have h' : l[j]? = some a := by simpa using h
    rw [E.flat_cons, List.set_cons_succ, E.flat_cons, List.set_append_right _ _ (by rw [E.len, Nat.add_mul]; omega), E.len,
      show (j + 1) * E.sz + k - E.sz = j * E.sz + k from by rw [Nat.add_mul]; omega, Enc.flat_set l j k a c u h' hk hs]
end flat
def blk : Value → Nat
  | .slice (some a) _ _ => a.block
  | _ => 0
def offs : Value → Nat
  | .slice (some a) _ _ => a.off
  | _ => 0
def vlen : Value → Nat
  | .slice _ n _ => n
  | _ => 0
def vcap : Value → Nat
  | .slice _ _ c => c
  | _ => 0
def RdV {α : Type} (w : World) (v : Value) (E : Enc α) (l : List α) : Prop :=
  ∃ a c, v = .slice a l.length c ∧ l.length ≤ c ∧ (l = [] ∨ ∃ b off, a = some ⟨b, off, none⟩ ∧ ∀ k u, (E.flat l)[k]? = some u → w.cell? ⟨b, off + k, none⟩ = some u)
theorem RdV.congr {α : Type} {w w' : World} {v : Value} {E : Enc α} {l : List α} (h : RdV w v E l) (hk : l ≠ [] → w'.heap[blk v]? = w.heap[blk v]?) : RdV w' v E l := by
  obtain ⟨a, c, rfl, hc, h⟩ := h
  refine ⟨a, c, rfl, hc, ?_⟩
  rcases h with rfl | ⟨b, off, rfl, h⟩
  · exact .inl rfl
  · by_cases hl : l = []
    · exact .inl hl
    · exact .inr ⟨b, off, rfl, fun k u hu => by
        rw [← h k u hu]
        exact World.cell?_of_block (w := w) (hk hl)⟩
theorem RdV.lt {α : Type} {w : World} {v : Value} {E : Enc α} {l : List α} (h : RdV w v E l) (hl : l ≠ []) : blk v < w.heap.size := by
  obtain ⟨a, c, rfl, hc, h⟩ := h
  rcases h with h | ⟨b, off, rfl, h⟩
  · exact absurd h hl
  · cases l with
    | nil => exact absurd rfl hl
    | cons x l =>
      have hp := E.pos
      have : 0 < (E.flat (x :: l)).length := by rw [E.flat_len]; simp; exact hp
      have h0 := h 0 _ (List.getElem?_eq_getElem this)
      unfold World.cell? at h0
      show b < _
      rcases Nat.lt_or_ge b w.heap.size with hb | hb
      · exact hb
      · simp [Array.getElem?_eq_none hb] at h0
theorem RdV.keep {α : Type} {w0 w : World} {D : List Nat} {H : List Ent} {v : Value} {E : Enc α} {l : List α} (h : RdV w0 v E l) (s : St w0 D H w) (hD : blk v ∉ D) : RdV w v E l :=
  h.congr (fun hl => s.keep.block _ (h.lt hl) hD)
theorem RdV.vlen {α : Type} {w : World} {v : Value} {E : Enc α} {l : List α} (h : RdV w v E l) : Sep.vlen v = l.length := by
  obtain ⟨a, c, rfl, hc, h⟩ := h; rfl
theorem RdV.cap {α : Type} {w : World} {v : Value} {E : Enc α} {l : List α} (h : RdV w v E l) : l.length ≤ Sep.vcap v := by
  obtain ⟨a, c, rfl, hc, h⟩ := h; exact hc
def ownB : Value → Option Nat
  | .slice (some a) _ c => if c = 0 then none else some a.block
  | _ => none
def Row {α : Type} (v : Value) (t : TypeId) (E : Enc α) (l : List α) (o : Option Obj) : Prop :=
  (∃ a, v = .slice a 0 0 ∧ l = []) ∨
  ∃ b cap pre post, v = .slice (some ⟨b, pre.length, none⟩) l.length cap ∧ 0 < cap ∧ o = some (.cells (pre ++ E.flat l ++ post).toArray t (0, 0)) ∧ l.length ≤ cap ∧ post.length = (cap - l.length) * E.sz
def rowE {α : Type} (v : Value) (t : TypeId) (E : Enc α) (l : List α) : Ent := ⟨ownB v, Row v t E l⟩
theorem rowE_rd {α : Type} {v : Value} {t : TypeId} {E : Enc α} {l : List α} {w : World} (h : (rowE v t E l).at w) : RdV w v E l := by
  rcases h with ⟨a, rfl, rfl⟩ | ⟨b, cap, pre, post, rfl, hc, ho, hl, hp⟩
  · exact ⟨a, 0, rfl, Nat.le_refl _, .inl rfl⟩
  · refine ⟨_, cap, rfl, hl, .inr ⟨b, pre.length, rfl, fun k u hu => ?_⟩⟩
    have ho' : w.heap[b]? = some (.cells (pre ++ E.flat l ++ post).toArray t (0, 0)) := by
      have : ownB (.slice (some ⟨b, pre.length, none⟩) l.length cap) = some b := by simp [ownB]; omega
      simpa [rowE, this] using ho
    unfold World.cell?
    simp only [ho']
    have hk := (List.getElem?_eq_some_iff.1 hu).1
    simp only [Option.isSome_none, Bool.false_eq_true, if_false]
    rw [List.getElem?_toArray, List.append_assoc, List.getElem?_append_right (by omega), List.getElem?_append_left (by omega)]
    rw [show pre.length + k - pre.length = k from by omega]
    exact hu
theorem St.rd {w0 : World} {D : List Nat} {H : List Ent} {w : World} {α : Type} {v : Value} {t : TypeId} {E : Enc α} {l : List α} (h : St w0 D H w) (i : Nat) (hi : H[i]? = some (rowE v t E l)) : RdV w v E l := rowE_rd (h.at i hi)
theorem cellsE_rd {α : Type} {b : Nat} {t : TypeId} {cs : List Value} {w : World} (h : (cellsE b t cs).at w) (E : Enc α) (l : List α) (off cap : Nat) (pre post : List Value) (hcs : cs = pre ++ E.flat l ++ post) (hoff : off = pre.length) (hc : l.length ≤ cap) : RdV w (.slice (some ⟨b, off, none⟩) l.length cap) E l := by
  subst hcs; subst hoff
  refine ⟨_, cap, rfl, hc, .inr ⟨b, pre.length, rfl, fun k u hu => cellsE_cell h ?_⟩⟩
  have hk := (List.getElem?_eq_some_iff.1 hu).1
  rw [List.append_assoc, List.getElem?_append_right (by omega), List.getElem?_append_left (by omega), show pre.length + k - pre.length = k from by omega]
  exact hu
theorem lit_rd {α : Type} {b : Nat} {t : TypeId} {cs : List Value} {w : World} {n : Nat} (h : (cellsE b t cs).at w) (E : Enc α) (l : List α) (hcs : cs = E.flat l) (hn : l.length = n) : RdV w (.slice (some ⟨b, 0, none⟩) n n) E l := by
  subst hn
  exact cellsE_rd h E l 0 l.length [] [] (by simpa using hcs) rfl (Nat.le_refl _)
end Go.Sep
namespace Go.Sep
open Go.RowKit
section
variable {P : Program} {n : Nat} {L : Env} {X : World → Prop} {o : Oper} {Q : Exit → Act → World → Prop} {K : Act → World → Prop}
theorem EOp.val {β : Type} (v : β → Value) (p : β → Prop) (X' : β → World → Prop) {d : Nat} (hd : o.dst = some d) (hn : d.blt n = true)
    (hr : ∀ a w, Know n L a → X w → ∃ b w', (execOp a.eval o).run P w = .ok (.value (v b)) w' ∧ p b ∧ X' b w') (h : ∀ b, p b → Pre n ((d, v b) :: L) (X' b) K) : EOp P n L X o Q K := fun a w k x => by
  obtain ⟨b, w', hrun, hp, hx⟩ := hr a w k x
  show o.upon P a K Q ((execOp a.eval o).run P w)
  rw [hrun]
  show K (a.put o.dst (v b)) w'
  rw [hd]
  exact h b hp _ _ (k.put _ hn) hx
theorem EOp.val0 {β : Type} (v : β → Value) (p : β → Prop) (X' : β → World → Prop) (hd : o.dst = none)
    (hr : ∀ a w, Know n L a → X w → ∃ b w', (execOp a.eval o).run P w = .ok (.value (v b)) w' ∧ p b ∧ X' b w') (h : ∀ b, p b → Pre n L (X' b) K) : EOp P n L X o Q K := fun a w k x => by
  obtain ⟨b, w', hrun, hp, hx⟩ := hr a w k x
  show o.upon P a K Q ((execOp a.eval o).run P w)
  rw [hrun]
  show K (a.put o.dst (v b)) w'
  rw [hd]
  exact h b hp _ _ k hx
theorem EOp.skip (X' : World → Prop) (hd : o.dst = none) (hr : ∀ a w, Know n L a → X w → ∃ w', (execOp a.eval o).run P w = .ok .skip w' ∧ X' w') (h : Pre n L X' K) : EOp P n L X o Q K := fun a w k x => by
  obtain ⟨w', hrun, hx⟩ := hr a w k x
  show o.upon P a K Q ((execOp a.eval o).run P w)
  rw [hrun]
  show K (a.put o.dst undef) w'
  rw [hd]
  exact h _ _ k hx
def evs (L : Env) : List Operand → Option (List Value)
  | [] => some []
  | x :: xs => match ev L x, evs L xs with
    | some v, some vs => some (v :: vs)
    | _, _ => none
theorem Know.evals {a : Act} (k : Know n L a) : ∀ {xs : List Operand} {vs : List Value}, evs L xs = some vs → xs.map a.eval = vs
  | [], vs, h => by cases h; rfl
  | x :: xs, vs, h => by
    simp only [evs] at h
    cases h1 : ev L x with
    | none => rw [h1] at h; cases h
    | some v =>
      cases h2 : evs L xs with
      | none => rw [h1, h2] at h; cases h
      | some us => rw [h1, h2] at h; cases h; rw [List.map_cons, k.eval h1, k.evals h2]
def evParts (L : Env) : List (Nat × Operand) → Option (List (Nat × Value))
  | [] => some []
  | (i, x) :: xs => match ev L x, evParts L xs with
    | some v, some vs => some ((i, v) :: vs)
    | _, _ => none
theorem Know.evParts {a : Act} (k : Know n L a) : ∀ {xs : List (Nat × Operand)} {vs : List (Nat × Value)}, Sep.evParts L xs = some vs → xs.map (fun (i, x) => (i, a.eval x)) = vs
  | [], vs, h => by cases h; rfl
  | (i, x) :: xs, vs, h => by
    simp only [Sep.evParts] at h
    cases h1 : ev L x with
    | none => rw [h1] at h; cases h
    | some v =>
      cases h2 : Sep.evParts L xs with
      | none => rw [h1, h2] at h; cases h
      | some us => rw [h1, h2] at h; cases h; rw [List.map_cons, k.evParts h2]; simp only [k.eval h1]
theorem e_call {β : Type} {v : β → Value} {p : β → Prop} {X' : β → World → Prop} {f : FuncId} {xs : List Operand} {ts : Array TypeId} {d : Nat} {vs : List Value} (ho : o.op = .call ⟨.value (.func f), xs.toArray, ts⟩) (hd : o.dst = some d) (hn : d.blt n = true)
    (hc : ∀ us w, (callFunc f us).run P w = .ok (.enter f us) w) (hv : evs L xs = some vs)
    (hs : ∀ w, X w → Calls P f vs.toArray w (fun e w' => ∃ b, e = .returned (v b) ∧ p b ∧ X' b w')) (h : ∀ b, p b → Pre n ((d, v b) :: L) (X' b) K) : EOp P n L X o Q K := fun a w k x => by
  have hargs : (xs.toArray.map a.eval) = vs.toArray := by rw [List.map_toArray, k.evals hv]
  have hrun : (execOp a.eval o).run P w = .ok (.enter f vs.toArray) w := by
    have h0 : ∀ us : Array Value, (callFunc f (#[] ++ us ++ #[])).run P w = .ok (.enter f us) w := fun us => by simpa using hc us w
    simp only [execOp, ho, resolve, Act.eval, Deferred.ofValue, Sem.run_bind, Sem.run_pure, Result.andThen_ok, invoke, hargs, h0]
  show o.upon P a K Q ((execOp a.eval o).run P w)
  rw [hrun]
  show Calls P f vs.toArray w _
  refine (hs w x).mono ?_
  rintro e w' ⟨b, rfl, hp, hx⟩
  show K (a.put o.dst (v b)) w'
  rw [hd]
  exact h b hp _ _ (k.put _ hn) hx
theorem e_callV {β : Type} {v : β → Value} {p : β → Prop} {X' : β → World → Prop} {g : Operand} {f : FuncId} {xs : List Operand} {ts : Array TypeId} {d : Nat} {vs us : List Value} (ho : o.op = .call ⟨.value g, xs.toArray, ts⟩) (hd : o.dst = some d) (hn : d.blt n = true)
    (hg : ev L g = some (.func (.func f) #[] us.toArray)) (hc : ∀ us w, (callFunc f us).run P w = .ok (.enter f us) w) (hv : evs L xs = some vs)
    (hs : ∀ w, X w → Calls P f (vs ++ us).toArray w (fun e w' => ∃ b, e = .returned (v b) ∧ p b ∧ X' b w')) (h : ∀ b, p b → Pre n ((d, v b) :: L) (X' b) K) : EOp P n L X o Q K := fun a w k x => by
  have hargs : (xs.toArray.map a.eval) = vs.toArray := by rw [List.map_toArray, k.evals hv]
  have hrun : (execOp a.eval o).run P w = .ok (.enter f (vs ++ us).toArray) w := by
    have h0 : (callFunc f (#[] ++ vs.toArray ++ us.toArray)).run P w = .ok (.enter f (vs ++ us).toArray) w := by simpa using hc (vs ++ us).toArray w
    simp only [execOp, ho, resolve, k.eval hg, Deferred.ofValue, Sem.run_bind, Sem.run_pure, Result.andThen_ok, invoke, hargs, h0]
  show o.upon P a K Q ((execOp a.eval o).run P w)
  rw [hrun]
  show Calls P f (vs ++ us).toArray w _
  refine (hs w x).mono ?_
  rintro e w' ⟨b, rfl, hp, hx⟩
  show K (a.put o.dst (v b)) w'
  rw [hd]
  exact h b hp _ _ (k.put _ hn) hx
variable {w0 : World} {D : List Nat} {H : List Ent}
theorem run_newRow (e : TypeId) (cs : Array Value) (w : World) : (newRow e cs).run P w = .ok ⟨w.heap.size, 0, none⟩ (w.alloc (.cells cs e)) := by
  simp [newRow]
theorem e_alloc {t : TypeId} {z : Value} {d : Nat} (ho : o.op = .alloc t) (hd : o.dst = some d) (hn : d.blt n = true) (hz : ∀ w, (zeroValue t).run P w = .ok z w)
    (h : ∀ b, Pre n ((d, .pointer (some ⟨b, 0, none⟩)) :: L) (St w0 D (cellsE b t z.cells.toList :: H)) K) : EOp P n L (St w0 D H) o Q K :=
  EOp.val (β := Nat) (fun b => .pointer (some ⟨b, 0, none⟩)) (fun _ => True) (fun b => St w0 D (cellsE b t z.cells.toList :: H)) hd hn (fun a w k x =>
    ⟨w.heap.size, _, by simp only [execOp, ho, Instr.alloc, Sem.run_bind, hz, Result.andThen_ok, newVar, run_newRow, Sem.run_pure], trivial, x.alloc rfl⟩) (fun b _ => h b)
theorem e_box {t : TypeId} {y : Operand} {v : Value} {d : Nat} (ho : o.op = .box t y) (hd : o.dst = some d) (hn : d.blt n = true) (hy : ev L y = some v)
    (h : ∀ b, Pre n ((d, .pointer (some ⟨b, 0, none⟩)) :: L) (St w0 D (cellsE b t v.cells.toList :: H)) K) : EOp P n L (St w0 D H) o Q K :=
  EOp.val (β := Nat) (fun b => .pointer (some ⟨b, 0, none⟩)) (fun _ => True) (fun b => St w0 D (cellsE b t v.cells.toList :: H)) hd hn (fun a w k x =>
    ⟨w.heap.size, _, by simp only [execOp, ho, Instr.box, k.eval hy, Sem.run_bind, Result.andThen_ok, newVar, run_newRow, Sem.run_pure], trivial, x.alloc rfl⟩) (fun b _ => h b)
theorem e_buildSlice {t e : TypeId} {m sz : Nat} {ps : List (Nat × Operand)} {vs : List (Nat × Value)} {zs cs : Array Value} {d : Nat} (ho : o.op = .buildSlice t m ps.toArray) (hd : o.dst = some d) (hn : d.blt n = true) (ht : P.underlying t = some (.slice e))
    (hs : ∀ w, (sizeOf e).run P w = .ok sz w) (hsm : (m * sz).ble 16777216 = true) (hz : ∀ w, (if m * sz = 0 then pure #[] else do pure (← zeroValue e).cells : Sem (Array Value)).run P w = .ok zs w) (hv : evParts L ps = some vs)
    (hf : Instr.fill (fun i => some (i * sz, sz)) ((Array.range (m * sz)).map (zs[· % zs.size]!)) vs = some cs)
    (h : ∀ b, Pre n ((d, .slice (some ⟨b, 0, none⟩) m m) :: L) (St w0 D (cellsE b e cs.toList :: H)) K) : EOp P n L (St w0 D H) o Q K :=
  EOp.val (β := Nat) (fun b => .slice (some ⟨b, 0, none⟩) m m) (fun _ => True) (fun b => St w0 D (cellsE b e cs.toList :: H)) hd hn (fun a w k x =>
    ⟨w.heap.size, w.alloc (.cells cs e), by
      have hle : ¬ (m * sz > 2 ^ 24) := by have := Nat.le_of_ble_eq_true hsm; omega
      have hp : (ps.toArray.map fun (i, x) => (i, a.eval x)) = vs.toArray := by rw [List.map_toArray, k.evParts hv]
      have hz' := hz w
      have hb : (Instr.buildSlice t m vs.toArray).run P w = .ok (.slice (some ⟨w.heap.size, 0, none⟩) m m) (w.alloc (.cells cs e)) := by
        unfold Instr.buildSlice
        simp only [Sem.run_bind, run_und ht, hs, Result.andThen_ok, if_neg hle]
        by_cases h0 : m * sz = 0
        · rw [if_pos h0] at hz' ⊢
          simp only [Sem.run_pure, Result.ok.injEq, and_true] at hz'
          subst hz'
          simp only [Sem.run_bind, Sem.run_pure, Result.andThen_ok]
          rw [hf]
          simp only [Sem.run_bind, run_newRow, Result.andThen_ok, Sem.run_pure]
        · rw [if_neg h0] at hz' ⊢
          simp only [Sem.run_bind, Sem.run_pure, Result.andThen_ok] at hz' ⊢
          cases hzz : (zeroValue e).run P w with
          | halt a w1 => rw [hzz] at hz'; cases hz'
          | ok zv w1 =>
            rw [hzz] at hz'
            simp only [Result.andThen_ok, Result.ok.injEq] at hz' ⊢
            obtain ⟨rfl, rfl⟩ := hz'
            rw [hf]
            simp only [Sem.run_bind, run_newRow, Result.andThen_ok, Sem.run_pure]
      simp only [execOp, ho, hp, Sem.run_bind, hb, Result.andThen_ok, Sem.run_pure], trivial, x.alloc (by simp)⟩) (fun b _ => h b)
def numOps : Nat → List Operand → List (Nat × Operand)
  | _, [] => []
  | i, x :: xs => (i, x) :: numOps (i + 1) xs
def numVals : Nat → List Value → List (Nat × Value)
  | _, [] => []
  | i, x :: xs => (i, x) :: numVals (i + 1) xs
theorem evParts_num : ∀ (xs : List Operand) (i : Nat) (vs : List Value), evs L xs = some vs → evParts L (numOps i xs) = some (numVals i vs)
  | [], i, vs, h => by cases h; rfl
  | x :: xs, i, vs, h => by
    simp only [evs] at h
    cases h1 : ev L x with
    | none => rw [h1] at h; cases h
    | some v =>
      cases h2 : evs L xs with
      | none => rw [h1, h2] at h; cases h
      | some us => rw [h1, h2] at h; cases h; simp only [numOps, evParts, numVals, h1, evParts_num xs (i + 1) us h2]
def cellsOf (vs : List Value) : List Value := vs.flatMap (fun v => v.cells.toList)
theorem fold_set (off : Nat) : ∀ (vs : List Value) (k : Nat) (arr : Array Value), off + k + vs.length ≤ arr.size →
    ((vs.zipIdx k).foldl (fun cs (x : Value × Nat) => cs.setIfInBounds (off + x.2) x.1) arr).toList = arr.toList.take (off + k) ++ vs ++ arr.toList.drop (off + k + vs.length)
  | [], k, arr, h => by simp
  | v :: vs, k, arr, h => by
    simp only [List.length_cons] at h
    rw [List.zipIdx_cons, List.foldl_cons, fold_set off vs (k + 1) _ (by simp; omega)]
    have hlt : off + k < arr.toList.length := by rw [Array.length_toList]; omega
    rw [Array.toList_setIfInBounds, List.drop_set_of_lt (by omega), show off + (k + 1) = off + k + 1 from rfl, List.take_succ_eq_append_getElem (by simp; omega), List.take_set, List.set_eq_of_length_le (by simp; omega)]
    simp only [List.getElem_set_self, List.append_assoc, List.cons_append, List.nil_append, List.length_cons]
    rw [show off + k + 1 + vs.length = off + k + (vs.length + 1) from by omega]
theorem fill_num (sz : Nat) : ∀ (vs : List Value) (i : Nat) (arr : Array Value), (vs.all (fun v => v.cells.size == sz)) = true → arr.size = (i + vs.length) * sz →
    ∃ cs, Instr.fill (fun i => some (i * sz, sz)) arr (numVals i vs) = some cs ∧ cs.toList = arr.toList.take (i * sz) ++ cellsOf vs
  | [], i, arr, h, ha => ⟨arr, rfl, by simp [cellsOf]; rw [List.take_of_length_le (by simp [ha])]⟩
  | v :: vs, i, arr, h, ha => by
    simp only [List.all_cons, Bool.and_eq_true, beq_iff_eq] at h
    simp only [List.length_cons] at ha
    have hmul : (i + (vs.length + 1)) * sz = i * sz + sz + vs.length * sz := by rw [Nat.add_mul, Nat.add_mul, Nat.one_mul]; omega
    have hl : v.cells.toList.length = sz := by rw [Array.length_toList, h.1]
    have hf := fold_set (i * sz) v.cells.toList 0 arr (by rw [hl]; omega)
    have hz : v.cells.zipIdx.foldl (fun cs (x : Value × Nat) => cs.setIfInBounds (i * sz + x.2) x.1) arr = (v.cells.toList.zipIdx 0).foldl (fun cs (x : Value × Nat) => cs.setIfInBounds (i * sz + x.2) x.1) arr := by
      rw [← Array.foldl_toList, Array.toList_zipIdx]
    obtain ⟨cs, h1, h2⟩ := fill_num sz vs (i + 1) (v.cells.zipIdx.foldl (fun cs (x : Value × Nat) => cs.setIfInBounds (i * sz + x.2) x.1) arr) h.2 (by
      rw [hz, ← Array.length_toList, hf]; simp only [List.length_append, List.length_take, List.length_drop, Array.length_toList, hl]; rw [show i + 1 + vs.length = i + (vs.length + 1) from by omega, hmul]; omega)
    refine ⟨cs, ?_, ?_⟩
    · simp only [numVals, Instr.fill]
      rw [if_neg (by simp [h.1]; omega)]
      exact h1
    · rw [h2, hz, hf, hl, Nat.add_zero]
      have e1 : (i + 1) * sz = (arr.toList.take (i * sz) ++ v.cells.toList).length := by
        rw [List.length_append, List.length_take, hl, Array.length_toList, Nat.add_mul, Nat.one_mul]; omega
      rw [e1]
      simp only [Nat.add_zero]
      rw [List.take_left]
      simp [cellsOf]
theorem e_buildSliceV {t e : TypeId} {m sz : Nat} {vs : List Value} {z : Value} {d : Nat} (xs : List Operand) (ho : o.op = .buildSlice t m (numOps 0 xs).toArray) (hd : o.dst = some d) (hn : d.blt n = true) (hv : evs L xs = some vs) (hm : vs.length = m) (ht : P.underlying t = some (.slice e))
    (hs : ∀ w, (sizeOf e).run P w = .ok sz w) (hsm : (m * sz).ble 16777216 = true) (hz : ∀ w, (zeroValue e).run P w = .ok z w) (hc : (vs.all (fun v => v.cells.size == sz)) = true)
    (h : ∀ b, Pre n ((d, .slice (some ⟨b, 0, none⟩) m m) :: L) (St w0 D (cellsE b e (cellsOf vs) :: H)) K) : EOp P n L (St w0 D H) o Q K := by
  obtain ⟨cs, h1, h2⟩ := fill_num sz vs 0 ((Array.range (m * sz)).map ((if m * sz = 0 then #[] else z.cells)[· % (if m * sz = 0 then #[] else z.cells).size]!)) hc (by simp [hm])
  rw [Nat.zero_mul, List.take_zero, List.nil_append] at h2
  refine e_buildSlice (sz := sz) (zs := if m * sz = 0 then #[] else z.cells) ho hd hn ht hs hsm (fun w => ?_) (evParts_num xs 0 vs hv) h1 (fun b => by rw [h2]; exact h b)
  split
  · rfl
  · simp [hz]
theorem e_makeSlice {α : Type} (E : Enc α) (a0 : α) (m : Nat) {t e : TypeId} {i : TypeInfo} {x y : Operand} {z : Value} {d : Nat} {j k : IntKind} {p q : Int} (ho : o.op = .makeSlice t x y) (hd : o.dst = some d) (hn : d.blt n = true) (ht : P.underlying t = some (.slice e))
    (hi : P.info? e = some i) (hs : i.size = E.sz) (hz : i.zero = some z) (hzc : z.cells.toList = E.f a0) (hx : ev L x = some (.int j p)) (hy : ev L y = some (.int k q)) (hp : p = (m : Int)) (hq : q = (m : Int)) (hm : m * i.bytes ≤ 281474976710656) (hm2 : m ≤ 9223372036854775807)
    (h : ∀ v, Pre n ((d, v) :: L) (St w0 D (rowE v e E (List.replicate m a0) :: H)) K) : EOp P n L (St w0 D H) o Q K :=
  EOp.val (β := Value) (fun v => v) (fun _ => True) (fun v => St w0 D (rowE v e E (List.replicate m a0) :: H)) hd hn (fun a w kn x => by
    subst hp; subst hq
    have hflat : ∀ m : Nat, ((Array.range (m * E.sz)).map (z.cells[· % z.cells.size]!)).toList = E.flat (List.replicate m a0) := fun m => by
      have hzl : z.cells.size = E.sz := by rw [← Array.length_toList, hzc, E.len]
      refine List.ext_getElem? (fun c => ?_)
      by_cases hc : c < m * E.sz
      · have hmod : c % E.sz < E.sz := Nat.mod_lt _ E.pos
        have hdiv : c / E.sz < m := (Nat.div_lt_iff_lt_mul E.pos).2 hc
        have e1 : c = c / E.sz * E.sz + c % E.sz := by rw [Nat.mul_comm]; exact (Nat.div_add_mod c E.sz).symm
        have hg := E.flat_get (List.replicate m a0) (c / E.sz) (c % E.sz) a0 _ (by simp [hdiv]) (List.getElem?_eq_getElem (by rw [E.len]; exact hmod))
        rw [← e1] at hg
        rw [hg]
        have h2 : z.cells[c % z.cells.size]! = (E.f a0)[c % E.sz]'(by rw [E.len]; exact hmod) := by
          rw [getElem!_pos z.cells (c % z.cells.size) (by rw [hzl]; exact hmod)]
          have : z.cells.toList[c % z.cells.size]'(by rw [Array.length_toList, hzl]; exact hmod) = (E.f a0)[c % E.sz]'(by rw [E.len]; exact hmod) := by simp only [hzc, hzl]
          simpa using this
        rw [← h2]
        simp [hc]
      · rw [List.getElem?_eq_none (by simp; omega), List.getElem?_eq_none (by rw [E.flat_len]; simp; omega)]
    have hw1 : IntKind.i64.wrap (m : Int) = (m : Int) := wrap64_in (by omega)
    have hzn : ∀ w, (if m * E.sz = 0 then pure #[] else do pure (← zeroValue e).cells : Sem (Array Value)).run P w = .ok (if m * E.sz = 0 then #[] else z.cells) w := fun w => by
      split <;> simp [zeroValue, typeInfo, hi, hz]
    have hrun : (Instr.makeSlice t (.int j (m : Int)) (.int k (m : Int))).run P w = .ok (.slice (some ⟨w.heap.size, 0, none⟩) m m) (w.alloc (.cells ((Array.range (m * E.sz)).map (z.cells[· % z.cells.size]!)) e)) := by
      have h1 : ¬ ((m : Int) < 0) := by omega
      have h2 : ¬ ((i.bytes : Int) * (m : Int) > 2 ^ 48) := by
        have h4 : i.bytes * m ≤ 281474976710656 := by rw [Nat.mul_comm]; exact hm
        have h5 : ((i.bytes * m : Nat) : Int) ≤ 281474976710656 := by omega
        rw [Int.natCast_mul] at h5
        omega
      have h3 : ¬ ((m : Int) > (m : Int)) := by omega
      have hzv : (zeroValue e).run P w = .ok z w := by simp [zeroValue, typeInfo, hi, hz]
      unfold Instr.makeSlice
      simp only [Sem.run_bind, run_und ht, Result.andThen_ok, asInt, asIntOf, Sem.run_pure, Sem.run_map, typeInfo, run_program, hi, hw1]
      simp only [decide_eq_true_eq, h1, h2, h3, decide_false, Bool.or_self, Bool.false_eq_true, if_false, Sem.run_bind, run_askRoom, Result.andThen_ok, sizeOf, typeInfo, run_program, hi, Sem.run_pure, Sem.run_map, hs, Int.toNat_natCast]
      by_cases h0 : m * E.sz = 0
      · have hr0 : ∀ f : Nat → Value, (Array.range 0).map f = #[] := fun f => by simp
        simp [h0, run_newRow, hr0]
      · simp [h0, hzv, run_newRow]
    refine ⟨.slice (some ⟨w.heap.size, 0, none⟩) m m, w.alloc (.cells ((Array.range (m * E.sz)).map (z.cells[· % z.cells.size]!)) e), by simp only [execOp, ho, kn.eval hx, kn.eval hy, Sem.run_bind, hrun, Result.andThen_ok, Sem.run_pure], trivial, ?_⟩
    by_cases h0 : m = 0
    · subst h0
      exact (x.alloc (φ := fun _ => True) trivial).free rfl (.inl ⟨_, rfl, rfl⟩)
    · have hb : ownB (.slice (some ⟨w.heap.size, 0, none⟩) m m) = some w.heap.size := by simp [ownB, h0]
      have h1 := x.alloc (φ := Row (.slice (some ⟨w.heap.size, 0, none⟩) m m) e E (List.replicate m a0)) (o := .cells ((Array.range (m * E.sz)).map (z.cells[· % z.cells.size]!)) e) (.inr ⟨w.heap.size, m, [], [], by simp, by omega, by
        rw [← hflat m, List.nil_append, List.append_nil, Array.toArray_toList], by simp, by simp⟩)
      rw [← hb] at h1
      exact h1) (fun v _ => h v)
theorem q_build {t : TypeId} {ps : List (Nat × Operand)} {pv : List (Nat × Value)} (vs : List Value) (ho : o.op = .build t ps.toArray) (hv : evParts L ps = some pv) (hr : ∀ w, (Instr.build t pv.toArray).run P w = .ok (.agg vs.toArray) w) : QOp P n L X o (.agg vs.toArray) :=
  QOp.mk (fun a => Instr.build t (ps.toArray.map fun (i, x) => (i, a.eval x))) (fun a => by simp [execOp, ho]) (fun a w hk _ => by
    have hp : (ps.toArray.map fun (i, x) => (i, a.eval x)) = pv.toArray := by rw [List.map_toArray, hk.evParts hv]
    rw [hp]; exact hr w)
theorem setCell_cells {b off : Nat} {t : TypeId} {cs : List Value} {w : World} (h : w.heap[b]? = some (.cells cs.toArray t (0, 0))) (v : Value) : (w.setCell ⟨b, off, none⟩ v).heap[b]? = some (.cells (cs.set off v).toArray t (0, 0)) := by
  simp only [World.setCell, Array.getElem?_modify, if_true]
  rw [h]
  simp
theorem run_storeC {b off : Nat} {t : TypeId} {cs : List Value} {w : World} {v : Value} (h : St w0 D (cellsE b t cs :: H) w) (hlt : off < cs.length) (hv : v.oneCell' = true) :
    ∃ w', (store ⟨b, off, none⟩ v).run P w = .ok () w' ∧ St w0 D (cellsE b t (cs.set off v) :: H) w' := by
  have hat : (cellsE b t cs).at w := h.at 0 rfl
  refine ⟨w.setCell ⟨b, off, none⟩ v, ?_, ?_⟩
  · rw [run_store _ _ _ _ _ hv, cellsE_cell hat (List.getElem?_eq_getElem hlt), cellsE_free hat]
    rfl
  · exact h.write rfl rfl rfl (by simp [World.setCell]) (fun k hk => Below.heap_setCell _ _ _ _ hk) (setCell_cells hat v)
theorem e_store {t T : TypeId} {x y : Operand} {b off : Nat} {cs : List Value} {v : Value} (ho : o.op = .store t x y) (hd : o.dst = none) (hs : ∀ w, (sizeOf t).run P w = .ok 1 w) (hx : ev L x = some (.pointer (some ⟨b, off, none⟩))) (hy : ev L y = some v) (hv : v.oneCell' = true)
    (hlt : off < cs.length) (h : Pre n L (St w0 D (cellsE b T (cs.set off v) :: H)) K) : EOp P n L (St w0 D (cellsE b T cs :: H)) o Q K :=
  EOp.skip _ hd (fun a w k hX => by
    obtain ⟨w', hr, h'⟩ := run_storeC (P := P) hX hlt hv
    have hc : v.cells = #[v] := by cases v <;> first | rfl | (cases hv; done)
    refine ⟨w', ?_, h'⟩
    simp [execOp, ho, k.eval hx, k.eval hy, Instr.storeAt, Instr.sureAddr, storeVar, hs, hc, storeCells, add_none, hr]) h
def splice (cs : List Value) (off : Nat) : List Value → List Value
  | [] => cs
  | v :: vs => splice (cs.set off v) (off + 1) vs
theorem splice_eq : ∀ (vs cs : List Value) (off : Nat), off + vs.length ≤ cs.length → splice cs off vs = cs.take off ++ vs ++ cs.drop (off + vs.length)
  | [], cs, off, h => by simp [splice]
  | v :: vs, cs, off, h => by
    simp only [List.length_cons] at h
    have hlt : off < cs.length := by omega
    rw [splice, splice_eq vs _ _ (by simp; omega)]
    rw [List.take_set, List.drop_set_of_lt (by omega), List.take_add_one, List.getElem?_eq_getElem hlt, List.set_append_right _ _ (by simp; omega)]
    simp only [List.length_take, Option.toList_some]
    rw [show off - min off cs.length = 0 from by omega]
    simp only [List.set_cons_zero, List.append_assoc, List.cons_append, List.nil_append, List.length_cons]
    rw [show off + 1 + vs.length = off + (vs.length + 1) from by omega]
theorem splice_len : ∀ (vs cs : List Value) (off : Nat), (splice cs off vs).length = cs.length
  | [], cs, off => rfl
  | v :: vs, cs, off => by rw [splice, splice_len vs, List.length_set]
theorem run_storeCs {b off : Nat} {t : TypeId} : ∀ (vs cs : List Value) (i : Nat) {w : World}, St w0 D (cellsE b t cs :: H) w → off + i + vs.length ≤ cs.length → (∀ v ∈ vs, v.oneCell' = true) →
    ∃ w', (storeCells ⟨b, off, none⟩ vs i).run P w = .ok () w' ∧ St w0 D (cellsE b t (splice cs (off + i) vs) :: H) w'
  | [], cs, i, w, h, hl, h1 => ⟨w, rfl, h⟩
  | v :: vs, cs, i, w, h, hl, h1 => by
    simp only [List.length_cons] at hl
    obtain ⟨w1, hr1, h'1⟩ := run_storeC (P := P) h (off := off + i) (by omega) (h1 v (List.mem_cons_self ..))
    obtain ⟨w2, hr2, h'2⟩ := run_storeCs (b := b) (off := off) vs _ (i + 1) h'1 (by simp; omega) (fun u hu => h1 u (List.mem_cons_of_mem _ hu))
    refine ⟨w2, ?_, h'2⟩
    simp only [storeCells, add_none, Sem.run_bind, hr1, Result.andThen_ok, hr2]
theorem e_storeAgg {t T : TypeId} {x y : Operand} {b off sz : Nat} {cs vs : List Value} (ho : o.op = .store t x y) (hd : o.dst = none) (hs : ∀ w, (sizeOf t).run P w = .ok sz w) (hx : ev L x = some (.pointer (some ⟨b, off, none⟩))) (hy : ev L y = some (.agg vs.toArray)) (hsz : vs.length = sz) (hv : ∀ v ∈ vs, v.oneCell' = true)
    (hlt : off + vs.length ≤ cs.length) (h : Pre n L (St w0 D (cellsE b T (splice cs off vs) :: H)) K) : EOp P n L (St w0 D (cellsE b T cs :: H)) o Q K :=
  EOp.skip _ hd (fun a w k hX => by
    obtain ⟨w', hr, h'⟩ := run_storeCs (P := P) vs cs 0 hX (by simpa using hlt) hv
    refine ⟨w', ?_, h'⟩
    simp [execOp, ho, k.eval hx, k.eval hy, Instr.storeAt, Instr.sureAddr, storeVar, hs, Value.cells, hsz, hr]) h
theorem row_open {α : Type} {v : Value} {e : TypeId} {E : Enc α} {l : List α} {w : World} (h : St w0 D (rowE v e E l :: H) w) (hl : 0 < l.length) :
    ∃ b cap pre post, v = .slice (some ⟨b, pre.length, none⟩) l.length cap ∧ l.length ≤ cap ∧ post.length = (cap - l.length) * E.sz ∧ St w0 D (cellsE b e (pre ++ E.flat l ++ post) :: H) w := by
  have hat : Row v e E l ((ownB v).bind (w.heap[·]?)) := h.at 0 rfl
  rcases hat with ⟨a, rfl, rfl⟩ | ⟨b, cap, pre, post, rfl, hc, ho, hlc, hp⟩
  · cases hl
  · refine ⟨b, cap, pre, post, rfl, hlc, hp, h.head ?_ (fun _ => ?_)⟩
    · simp [cellsE, rowE, ownB]; omega
    · have : ownB (.slice (some ⟨b, pre.length, none⟩) l.length cap) = some b := by simp [ownB]; omega
      rw [this] at ho
      exact ho
theorem row_close {α : Type} {b cap : Nat} {e : TypeId} {E : Enc α} {l : List α} {pre post : List Value} {w : World} (h : St w0 D (cellsE b e (pre ++ E.flat l ++ post) :: H) w) (hc : 0 < cap) (hl : l.length ≤ cap) (hp : post.length = (cap - l.length) * E.sz) :
    St w0 D (rowE (.slice (some ⟨b, pre.length, none⟩) l.length cap) e E l :: H) w := by
  have hb : ownB (.slice (some ⟨b, pre.length, none⟩) l.length cap) = some b := by simp [ownB]; omega
  refine h.head hb (fun hat => .inr ⟨b, cap, pre, post, rfl, hc, ?_, hl, hp⟩)
  have hat' : w.heap[b]? = some (.cells (pre ++ E.flat l ++ post).toArray e (0, 0)) := hat
  simp only [rowE, hb]
  exact hat'
theorem e_storeV {α : Type} {E : Enc α} {l : List α} {t e : TypeId} {x y : Operand} {v u : Value} {off : Nat} (j k : Nat) (c : α) {a : α} (ho : o.op = .store t x y) (hd : o.dst = none) (hs : ∀ w, (sizeOf t).run P w = .ok 1 w) (hx : ev L x = some (.pointer (some ⟨blk v, off, none⟩))) (hoff : off = offs v + j * E.sz + k) (hy : ev L y = some u)
    (ha : l[j]? = some a) (hk : k < E.sz) (hc : (E.f a).set k u = E.f c) (h : Pre n L (St w0 D (rowE v e E (l.set j c) :: H)) K) : EOp P n L (St w0 D (rowE v e E l :: H)) o Q K :=
  EOp.skip _ hd (fun ac w kn hX => by
    have hj := (List.getElem?_eq_some_iff.1 ha).1
    have hu : u.oneCell' = true := E.one c u (by rw [← hc]; exact List.mem_set (by rw [E.len]; exact hk) u)
    obtain ⟨b, cap, pre, post, rfl, hlc, hp, h1⟩ := row_open hX (by omega)
    have hlen := E.flat_len l
    have hmul : (j + 1) * E.sz ≤ l.length * E.sz := Nat.mul_le_mul_right _ (by omega)
    rw [Nat.add_mul, Nat.one_mul] at hmul
    obtain ⟨w', hr, h'⟩ := run_storeC (P := P) h1 (off := off) (by subst hoff; simp only [offs, List.length_append, hlen]; omega) hu
    have hset : (pre ++ E.flat l ++ post).set off u = pre ++ E.flat (l.set j c) ++ post := by
      subst hoff
      simp only [offs]
      rw [show pre.length + j * E.sz + k = pre.length + (j * E.sz + k) from by omega, List.append_assoc, set_mid _ _ _ _ (by rw [List.length_append, hlen]; omega), List.set_append_left _ _ (by rw [hlen]; omega), E.flat_set l j k a c u ha hk hc, List.append_assoc]
    rw [hset] at h'
    have hc2 : u.cells = #[u] := by cases u <;> first | rfl | (cases hu; done)
    refine ⟨w', by simp [execOp, ho, kn.eval hx, kn.eval hy, Instr.storeAt, Instr.sureAddr, storeVar, hs, hc2, storeCells, add_none, blk]; simp [hr], ?_⟩
    have := row_close (cap := cap) h' (by omega) (by simpa using hlc) (by simpa using hp)
    simpa using this) h
theorem e_storeVAgg {α : Type} {E : Enc α} {l : List α} {t e : TypeId} {x y : Operand} {v : Value} {off : Nat} (j : Nat) (c : α) {us : List Value} (ho : o.op = .store t x y) (hd : o.dst = none) (hs : ∀ w, (sizeOf t).run P w = .ok E.sz w) (hx : ev L x = some (.pointer (some ⟨blk v, off, none⟩))) (hoff : off = offs v + j * E.sz) (hy : ev L y = some (.agg us.toArray))
    (hc : us = E.f c) (hj : j < l.length) (h : Pre n L (St w0 D (rowE v e E (l.set j c) :: H)) K) : EOp P n L (St w0 D (rowE v e E l :: H)) o Q K :=
  EOp.skip _ hd (fun ac w kn hX => by
    subst hc
    obtain ⟨b, cap, pre, post, rfl, hlc, hp, h1⟩ := row_open hX (by omega)
    have hlen := E.flat_len l
    have hmul : (j + 1) * E.sz ≤ l.length * E.sz := Nat.mul_le_mul_right _ (by omega)
    rw [Nat.add_mul, Nat.one_mul] at hmul
    have hfit : off + 0 + (E.f c).length ≤ (pre ++ E.flat l ++ post).length := by subst hoff; simp only [offs, List.length_append, hlen, E.len]; omega
    obtain ⟨w', hr, h'⟩ := run_storeCs (P := P) (off := off) (E.f c) _ 0 h1 hfit (E.one c)
    have hset : splice (pre ++ E.flat l ++ post) (off + 0) (E.f c) = pre ++ E.flat (l.set j c) ++ post := by
      rw [splice_eq _ _ _ (by simpa using hfit)]
      subst hoff
      simp only [offs, Nat.add_zero, E.len]
      have e1 : l.set j c = l.take j ++ [c] ++ l.drop (j + 1) := by
        rw [List.set_eq_take_append_cons_drop]; simp [hj]
      rw [e1, E.flat_append, E.flat_append, ← E.flat_take, ← E.flat_drop, Nat.add_mul, Nat.one_mul, E.flat_cons, E.flat_nil, List.append_nil]
      have t1 : (pre ++ E.flat l ++ post).take (pre.length + j * E.sz) = pre ++ (E.flat l).take (j * E.sz) := by
        rw [List.append_assoc, List.take_length_add_append, List.take_append_of_le_length (by rw [hlen]; omega)]
      have t2 : (pre ++ E.flat l ++ post).drop (pre.length + j * E.sz + E.sz) = (E.flat l).drop (j * E.sz + E.sz) ++ post := by
        rw [List.append_assoc, Nat.add_assoc, List.drop_length_add_append, List.drop_append_of_le_length (by rw [hlen]; omega)]
      rw [t1, t2]
      simp only [List.append_assoc]
    rw [hset] at h'
    refine ⟨w', by simp [execOp, ho, kn.eval hx, kn.eval hy, Instr.storeAt, Instr.sureAddr, storeVar, hs, Value.cells, E.len, blk]; simp [hr], ?_⟩
    have := row_close (cap := cap) h' (by omega) (by simpa using hlc) (by simpa using hp)
    simpa using this) h
end
end Go.Sep
namespace Go.Sep
open Go.RowKit
section
variable {P : Program} {n : Nat} {L : Env} {X : World → Prop} {o : Oper} {Q : Exit → Act → World → Prop} {K : Act → World → Prop} {α : Type} {E : Enc α} {l : List α} {v : Value}
theorem q_lenV {x : Operand} {t e : TypeId} (ho : o.op = .call ⟨.builtin .len, #[x], #[t]⟩) (ht : P.underlying t = some (.slice e)) (hx : ev L x = some v) (hr : ∀ w, X w → RdV w v E l) : QOp P n L X o (.int .i64 (l.length : Int)) := fun a w hk hX => by
  obtain ⟨ad, c, rfl, _⟩ := hr w hX
  exact q_len (X := X) ho ht hx a w hk hX
theorem q_indexV {t e : TypeId} {x i : Operand} {k : IntKind} {p : Int} (j : Nat) (ho : o.op = .indexAddr t x i) (ht : P.underlying t = some (.slice e)) (hz : ∀ w, (sizeOf e).run P w = .ok E.sz w)
    (hx : ev L x = some v) (hr : ∀ w, X w → RdV w v E l) (hi : ev L i = some (.int k p)) (hp : p = (j : Int)) (hj : j < l.length) : QOp P n L X o (.pointer (some ⟨blk v, offs v + j * E.sz, none⟩)) := fun a w hk hX => by
  obtain ⟨ad, c, rfl, _, h⟩ := hr w hX
  rcases h with rfl | ⟨b, off, rfl, h⟩
  · simp at hj
  · exact q_indexAddr (X := X) j ho ht hz hx hi hp hj a w hk hX
theorem rd_open {w : World} (hr : RdV w v E l) (hn : 0 < l.length) : ∃ b off c, v = .slice (some ⟨b, off, none⟩) l.length c := by
  obtain ⟨ad, c, rfl, _, h⟩ := hr
  rcases h with rfl | ⟨b, off, rfl, h⟩
  · simp at hn
  · exact ⟨b, off, c, rfl⟩
theorem rd_cell {w : World} (hr : RdV w v E l) {j k : Nat} {a : α} {u : Value} (ha : l[j]? = some a) (hv : (E.f a)[k]? = some u) : w.cell? ⟨blk v, offs v + j * E.sz + k, none⟩ = some u := by
  obtain ⟨ad, c, rfl, _, h⟩ := hr
  rcases h with rfl | ⟨b, off, rfl, h⟩
  · simp at ha
  · have := h _ _ (E.flat_get l j k a u ha hv)
    rwa [← Nat.add_assoc] at this
theorem q_loadV {t : TypeId} {x : Operand} {u : Value} {off : Nat} (j k : Nat) {a : α} (ho : o.op = .load t x) (hg : ∀ w, (isAgg t).run P w = .ok false w) (hx : ev L x = some (.pointer (some ⟨blk v, off, none⟩))) (hoff : off = offs v + j * E.sz + k)
    (hr : ∀ w, X w → RdV w v E l) (ha : l[j]? = some a) (hv : (E.f a)[k]? = some u) : QOp P n L X o u := by
  subst hoff
  exact q_load ho hg hx (fun w hX => rd_cell (hr w hX) ha hv)
theorem q_loadVPart {t : TypeId} {x : Operand} {off sz : Nat} (j k : Nat) {a : α} (ho : o.op = .load t x) (hg : ∀ w, (isAgg t).run P w = .ok true w) (hz : ∀ w, (sizeOf t).run P w = .ok sz w) (hx : ev L x = some (.pointer (some ⟨blk v, off, none⟩))) (hoff : off = offs v + j * E.sz + k)
    (hr : ∀ w, X w → RdV w v E l) (ha : l[j]? = some a) (hk : k + sz ≤ E.sz) : QOp P n L X o (.agg (((E.f a).drop k).take sz).toArray) := by
  subst hoff
  refine q_loadAgg ho hg hz hx (by rw [List.length_take, List.length_drop, E.len]; omega) (fun w hX i u hu => ?_)
  have h1 : (E.f a)[k + i]? = some u := by
    rw [List.getElem?_take] at hu
    split at hu
    · rwa [List.getElem?_drop] at hu
    · cases hu
  rw [Nat.add_assoc]
  exact rd_cell (hr w hX) ha h1
theorem q_loadVAgg {t : TypeId} {x : Operand} {off : Nat} (j : Nat) {a : α} (ho : o.op = .load t x) (hg : ∀ w, (isAgg t).run P w = .ok true w) (hz : ∀ w, (sizeOf t).run P w = .ok E.sz w) (hx : ev L x = some (.pointer (some ⟨blk v, off, none⟩))) (hoff : off = offs v + j * E.sz)
    (hr : ∀ w, X w → RdV w v E l) (ha : l[j]? = some a) : QOp P n L X o (.agg (E.f a).toArray) := by
  have := q_loadVPart (P := P) (n := n) (E := E) (v := v) (l := l) j 0 ho hg hz hx (by rw [Nat.add_zero]; exact hoff) hr ha (by omega)
  rw [List.drop_zero, List.take_of_length_le (by rw [E.len]; exact Nat.le_refl _)] at this
  exact this
theorem q_loadC {t T : TypeId} {x : Operand} {b off : Nat} {cs : List Value} {u : Value} (ho : o.op = .load t x) (hg : ∀ w, (isAgg t).run P w = .ok false w) (hx : ev L x = some (.pointer (some ⟨b, off, none⟩))) (hr : ∀ w, X w → (cellsE b T cs).at w) (hv : cs[off]? = some u) : QOp P n L X o u :=
  q_load ho hg hx (fun w hX => cellsE_cell (hr w hX) hv)
theorem q_loadCAgg {t T : TypeId} {x : Operand} {b off sz : Nat} {cs : List Value} (vs : List Value) (ho : o.op = .load t x) (hg : ∀ w, (isAgg t).run P w = .ok true w) (hz : ∀ w, (sizeOf t).run P w = .ok sz w) (hx : ev L x = some (.pointer (some ⟨b, off, none⟩))) (hr : ∀ w, X w → (cellsE b T cs).at w)
    (hv : (cs.drop off).take sz = vs) (hl : vs.length = sz) : QOp P n L X o (.agg vs.toArray) :=
  q_loadAgg ho hg hz hx hl (fun w hX i u hu => cellsE_cell (hr w hX) (by
    subst hv
    rw [List.getElem?_take] at hu
    split at hu
    · rwa [List.getElem?_drop] at hu
    · cases hu))
def vsl : Value → Nat → Nat → Nat → Value
  | .slice a _ c, sz, lo, hi => .slice (if c = lo then a else a.map (·.add (lo * sz))) (hi - lo) (c - lo)
  | v, _, _, _ => v
theorem vsl_rd {w : World} (h : RdV w v E l) {lo hi : Nat} (h1 : lo ≤ hi) (h2 : hi ≤ l.length) : RdV w (vsl v E.sz lo hi) E ((l.take hi).drop lo) := by
  obtain ⟨a, c, rfl, hc, h⟩ := h
  have hlen : ((l.take hi).drop lo).length = hi - lo := by rw [List.length_drop, List.length_take]; omega
  refine ⟨(if c = lo then a else a.map (·.add (lo * E.sz))), c - lo, by rw [vsl, hlen], by omega, ?_⟩
  by_cases hd : hi = lo
  · exact .inl (List.eq_nil_of_length_eq_zero (by omega))
  · rcases h with rfl | ⟨b, off, rfl, h⟩
    · simp at h2; omega
    · refine .inr ⟨b, off + lo * E.sz, ?_, fun k u hu => ?_⟩
      · rw [if_neg (by omega)]; simp [add_none]
      · rw [← E.flat_drop, ← E.flat_take, List.getElem?_drop, List.getElem?_take] at hu
        split at hu
        · have := h _ _ hu; rwa [← Nat.add_assoc] at this
        · cases hu
theorem q_sliceV {t e : TypeId} {x lo hi : Operand} {k k' : IntKind} {zl zh : Int} (i j : Nat) (ho : o.op = .slice t x (some lo) (some hi) none) (ht : P.underlying t = some (.slice e)) (hz : ∀ w, (sizeOf e).run P w = .ok E.sz w)
    (hx : ev L x = some v) (hr : ∀ w, X w → RdV w v E l) (hlo : ev L lo = some (.int k zl)) (hhi : ev L hi = some (.int k' zh)) (el : zl = (i : Int)) (eh : zh = (j : Int)) (h1 : i ≤ j) (h2 : j ≤ l.length) :
    QOp P n L X o (vsl v E.sz i j) := fun a w hk hX => by
  obtain ⟨ad, c, rfl, hc, _⟩ := hr w hX
  subst el; subst eh
  have hjc : j ≤ c := by omega
  have := QOp.mk (P := P) (n := n) (L := L) (X := X) (o := o) (v := vsl (.slice ad l.length c) E.sz i j) (fun a => Instr.sliceAt t (a.eval x) (some (a.eval lo)) (some (a.eval hi)) none) (fun a => by simp [execOp, ho]) (fun a w hk _ => by
    rw [hk.eval hx, hk.eval hlo, hk.eval hhi]
    simp only [Instr.sliceAt, Instr.slice, Instr.sliceBounds, Sem.run_bind, run_und ht, Result.andThen_ok, Sem.run_pure, run_bound (P := P) w rfl hjc, run_bound (P := P) w rfl h1, hz, vsl])
  exact this a w hk hX
theorem q_sliceVL {t e : TypeId} {x lo : Operand} {k : IntKind} {zl : Int} (i : Nat) (ho : o.op = .slice t x (some lo) none none) (ht : P.underlying t = some (.slice e)) (hz : ∀ w, (sizeOf e).run P w = .ok E.sz w)
    (hx : ev L x = some v) (hr : ∀ w, X w → RdV w v E l) (hlo : ev L lo = some (.int k zl)) (el : zl = (i : Int)) (h1 : i ≤ l.length) :
    QOp P n L X o (vsl v E.sz i l.length) := fun a w hk hX => by
  obtain ⟨ad, c, rfl, hc, _⟩ := hr w hX
  subst el
  have := QOp.mk (P := P) (n := n) (L := L) (X := X) (o := o) (v := vsl (.slice ad l.length c) E.sz i l.length) (fun a => Instr.sliceAt t (a.eval x) (some (a.eval lo)) none none) (fun a => by simp [execOp, ho]) (fun a w hk _ => by
    rw [hk.eval hx, hk.eval hlo]
    simp only [Instr.sliceAt, Instr.slice, Instr.sliceBounds, Sem.run_bind, run_und ht, Result.andThen_ok, Sem.run_pure, run_bound (P := P) w rfl h1, hz, vsl])
  exact this a w hk hX
theorem q_sliceVH {t e : TypeId} {x hi : Operand} {k' : IntKind} {zh : Int} (j : Nat) (ho : o.op = .slice t x none (some hi) none) (ht : P.underlying t = some (.slice e)) (hz : ∀ w, (sizeOf e).run P w = .ok E.sz w)
    (hx : ev L x = some v) (hr : ∀ w, X w → RdV w v E l) (hhi : ev L hi = some (.int k' zh)) (eh : zh = (j : Int)) (h2 : j ≤ l.length) :
    QOp P n L X o (vsl v E.sz 0 j) := fun a w hk hX => by
  obtain ⟨ad, c, rfl, hc, _⟩ := hr w hX
  subst eh
  have hjc : j ≤ c := by omega
  have := QOp.mk (P := P) (n := n) (L := L) (X := X) (o := o) (v := vsl (.slice ad l.length c) E.sz 0 j) (fun a => Instr.sliceAt t (a.eval x) none (some (a.eval hi)) none) (fun a => by simp [execOp, ho]) (fun a w hk _ => by
    rw [hk.eval hx, hk.eval hhi]
    simp only [Instr.sliceAt, Instr.slice, Instr.sliceBounds, Sem.run_bind, run_und ht, Result.andThen_ok, Sem.run_pure, run_bound (P := P) w rfl hjc, hz, vsl])
  exact this a w hk hX
theorem run_lenOf {w : World} (h : RdV w v E l) : (Builtin.lenOf v).run P w = .ok l.length w := by
  obtain ⟨a, c, rfl, _⟩ := h; rfl
theorem run_first {w : World} (h : RdV w v E l) : (Builtin.firstCells E.sz l.length v).run P w = .ok (E.flat l).toArray w := by
  obtain ⟨a, c, rfl, _, h⟩ := h
  rcases h with rfl | ⟨b, off, rfl, h⟩
  · cases a <;> simp [Builtin.firstCells, loadCells, loadCellsFrom, Enc.flat_nil]
  · simp only [Builtin.firstCells, loadCells]
    have := run_loadCells (P := P) b off w (l.length * E.sz) 0 (E.flat l) #[] (E.flat_len l) (fun j u hu => by rw [Nat.zero_add]; exact h j u hu)
    simpa using this
theorem RdV.drew {w : World} (h : RdV w v E l) : RdV w.drew v E l := h.congr (fun _ => rfl)
variable {w0 : World} {D : List Nat} {H : List Ent}
theorem St.row0 {w : World} (e : TypeId) (E : Enc α) (a : Option Addr) (h : St w0 D H w) : St w0 D (rowE (.slice a 0 0) e E [] :: H) w :=
  h.add (by cases a <;> simp [rowE, ownB]) (.inl ⟨a, rfl, rfl⟩)
theorem St.rowLit {w : World} {b m : Nat} {e : TypeId} {cs : List Value} (E : Enc α) (l : List α) (hl : l.length = m) (hcs : cs = E.flat l) (h : St w0 D (cellsE b e cs :: H) w) : St w0 D (rowE (.slice (some ⟨b, 0, none⟩) m m) e E l :: H) w := by
  subst hl; subst hcs
  by_cases h0 : l = []
  · subst h0
    exact h.drop.row0 e E _
  · have hp : 0 < l.length := List.length_pos_iff.2 h0
    have h1 : St w0 D (cellsE b e ([] ++ E.flat l ++ []) :: H) w := by simpa using h
    exact row_close (cap := l.length) h1 hp (Nat.le_refl _) (by simp)
theorem run_append {t tx e e' : TypeId} {i : TypeInfo} {z x : Value} {m : List α} {ty : TypeId} {w : World} (ht : P.underlying t = some (.slice e)) (htx : P.underlying tx = some (.slice e')) (hi : P.info? e = some i) (hs : i.size = E.sz) (hz : i.zero = some z) (hzc : z.cells.size = E.sz)
    (h : St w0 D (rowE v e E l :: H) w) (hx : RdV w x E m) (hb : (l.length + m.length) * i.bytes ≤ 140737488355328) (hn : l.length + m.length ≤ 9223372036854775807) :
    ∃ v' w', (Builtin.append_ #[t, tx] ty #[v, x]).run P w = .ok v' w' ∧ St w0 D (rowE v' e E (l ++ m) :: H) w' := by
  have hrd : RdV w v E l := rowE_rd (h.at 0 rfl)
  have hvl := hrd
  obtain ⟨a, c, rfl, hc, _⟩ := hvl
  have hsz : ∀ w, (sizeOf e).run P w = .ok E.sz w := fun w => by simp [sizeOf, typeInfo, hi, hs]
  have hti : ∀ w, (typeInfo e).run P w = .ok i w := fun w => by simp [typeInfo, hi]
  have hzv : ∀ w, (zeroValue e).run P w = .ok z w := fun w => by simp [zeroValue, typeInfo, hi, hz]
  have hlen := run_lenOf (P := P) hx
  by_cases hroom : l.length + m.length ≤ c
  · -- there is room
    have hrun : (Builtin.append_ #[t, tx] ty #[.slice a l.length c, x]).run P w = (Sem.run P (match a with | some a => storeCells (a.add (l.length * E.sz)) (E.flat m) | none => pure () : Sem Unit) w).andThen (fun _ w' => .ok (.slice a (l.length + m.length) c) w') := by
      have hf := run_first (P := P) hx
      cases a <;> simp [Builtin.append_, run_und ht, run_und htx, hsz, hlen, hroom, hf]
    by_cases hm : m = []
    · subst hm
      refine ⟨.slice a l.length c, w, ?_, by simpa using h⟩
      rw [hrun]
      cases a <;> simp [Enc.flat_nil, storeCells]
    · have hmp : 0 < m.length := List.length_pos_iff.2 hm
      have hat : Row (.slice a l.length c) e E l ((ownB (.slice a l.length c)).bind (w.heap[·]?)) := h.at 0 rfl
      rcases hat with ⟨a', he, rfl⟩ | ⟨b, cap, pre, post, he, hcp, ho, hlc, hpost⟩
      · cases he; simp at hroom; exact absurd hroom hm
      · cases he
        have hown : ownB (.slice (some ⟨b, pre.length, none⟩) l.length c) = some b := by simp [ownB]; omega
        have h1 : St w0 D (cellsE b e (pre ++ E.flat l ++ post) :: H) w := h.head hown.symm (fun _ => by rw [hown] at ho; exact ho)
        have hl1 := E.flat_len l
        have hl2 := E.flat_len m
        have hmul : (l.length + m.length) * E.sz ≤ c * E.sz := Nat.mul_le_mul_right _ hroom
        have hsub : (c - l.length) * E.sz = c * E.sz - l.length * E.sz := Nat.sub_mul ..
        rw [Nat.add_mul] at hmul
        have hfit : pre.length + l.length * E.sz + 0 + (E.flat m).length ≤ (pre ++ E.flat l ++ post).length := by
          simp only [List.length_append]; omega
        obtain ⟨w', hr, h'⟩ := run_storeCs (P := P) (off := pre.length + l.length * E.sz) (E.flat m) _ 0 h1 hfit (fun u hu => E.flat_one m u hu)
        refine ⟨.slice (some ⟨b, pre.length, none⟩) (l.length + m.length) c, w', ?_, ?_⟩
        · rw [hrun]
          simp only [add_none, hr, Result.andThen_ok]
        · rw [splice_eq _ _ _ (by simpa using hfit)] at h'
          have t1 : (pre ++ E.flat l ++ post).take (pre.length + l.length * E.sz + 0) = pre ++ E.flat l := by
            rw [Nat.add_zero, ← hl1, ← List.length_append, List.take_left]
          rw [t1] at h'
          have e2 : pre ++ E.flat l ++ E.flat m = pre ++ E.flat (l ++ m) := by rw [E.flat_append, List.append_assoc]
          rw [e2] at h'
          have := row_close (cap := c) h' (by omega) (by simpa using hroom) (by
            simp only [List.length_drop, List.length_append, Nat.add_zero]
            have hs2 : (c - (l.length + m.length)) * E.sz = c * E.sz - (l.length * E.sz + m.length * E.sz) := by rw [Nat.sub_mul, Nat.add_mul]
            rw [hs2]
            omega)
          simpa using this
  · -- a new block
    have hgt : c < l.length + m.length := by omega
    have h64 : ¬ (9223372036854775807 < ((l.length : Int) + (m.length : Int))) := by omega
    have hfits := growslice_fits hgt hb
    have h48 : ¬ (281474976710656 < Builtin.nextslicecap (l.length + m.length) c * i.bytes) := by omega
    have hf1 := run_first (P := P) hrd.drew
    have hf2 := run_first (P := P) hx.drew
    have hrun : (Builtin.append_ #[t, tx] ty #[.slice a l.length c, x]).run P w = .ok (.slice (some ⟨w.heap.size, 0, none⟩) (l.length + m.length) (grownCap w (l.length + m.length) c e))
        (w.drew.alloc (.cells ((E.flat l).toArray ++ (E.flat m).toArray ++ Builtin.zeroCells z.cells (grownCap w (l.length + m.length) c e - (l.length + m.length))) e)) := by
      simp [Builtin.append_, run_und ht, run_und htx, hsz, hti, hzv, hlen, hroom, h64, h48, Question.forced, hf1, hf2, newRow, grownCap, ← Array.append_assoc]
    refine ⟨_, _, hrun, ?_⟩
    have hge := grownCap_ge w (l.length + m.length) c e
    have hb2 : ownB (.slice (some ⟨w.heap.size, 0, none⟩) (l.length + m.length) (grownCap w (l.length + m.length) c e)) = some w.heap.size := by simp [ownB]; omega
    have h1 := (h.drop.drew).alloc (o := .cells ((E.flat l).toArray ++ (E.flat m).toArray ++ Builtin.zeroCells z.cells (grownCap w (l.length + m.length) c e - (l.length + m.length))) e)
      (φ := Row (.slice (some ⟨w.heap.size, 0, none⟩) (l.length + m.length) (grownCap w (l.length + m.length) c e)) e E (l ++ m)) (.inr ⟨w.heap.size, grownCap w (l.length + m.length) c e, [], (Builtin.zeroCells z.cells (grownCap w (l.length + m.length) c e - (l.length + m.length))).toList, by simp, by omega, by
        congr 2
        apply Array.toList_inj.1
        simp [E.flat_append], by simp; omega, by
        rw [Array.length_toList, size_zeroCells, hzc, List.length_append]⟩)
    show St w0 D (⟨ownB _, _⟩ :: H) _
    rw [hb2]
    exact h1
theorem e_append {t tx e e' : TypeId} {i : TypeInfo} {z xv : Value} {s x : Operand} {m : List α} {d : Nat} (ho : o.op = .call ⟨.builtin .append, #[s, x], #[t, tx]⟩) (hd : o.dst = some d) (hnn : d.blt n = true) (ht : P.underlying t = some (.slice e)) (htx : P.underlying tx = some (.slice e')) (hi : P.info? e = some i) (hs : i.size = E.sz) (hz : i.zero = some z) (hzc : z.cells.size = E.sz)
    (hsv : ev L s = some v) (hxv : ev L x = some xv) (hx : ∀ w, St w0 D (rowE v e E l :: H) w → RdV w xv E m) (hb : (l.length + m.length) * i.bytes ≤ 140737488355328) (hn : l.length + m.length ≤ 9223372036854775807)
    (h : ∀ v', Pre n ((d, v') :: L) (St w0 D (rowE v' e E (l ++ m) :: H)) K) : EOp P n L (St w0 D (rowE v e E l :: H)) o Q K :=
  EOp.val (β := Value) (fun v => v) (fun _ => True) (fun v' => St w0 D (rowE v' e E (l ++ m) :: H)) hd hnn (fun a w kn hX => by
    obtain ⟨v', w', hr, h'⟩ := run_append (P := P) (ty := o.type) ht htx hi hs hz hzc hX (hx w hX) hb hn
    exact ⟨v', w', by simp [execOp, ho, resolve, invoke, builtin, kn.eval hsv, kn.eval hxv, hr], trivial, h'⟩) (fun v' _ => h v')
variable {F : Act → World → Prop} {a b c d e f g h i : Ent}
theorem pull1 (k : Pre n L (St w0 D (b :: a :: H)) F) : Pre n L (St w0 D (a :: b :: H)) F := k.world _ (fun w s => s.perm (.swap b a H))
theorem pull2 (k : Pre n L (St w0 D (c :: a :: b :: H)) F) : Pre n L (St w0 D (a :: b :: c :: H)) F := k.world _ (fun w s => s.perm (.trans (.cons a (.swap c b H)) (.swap c a (b :: H))))
theorem pull3 (k : Pre n L (St w0 D (d :: a :: b :: c :: H)) F) : Pre n L (St w0 D (a :: b :: c :: d :: H)) F := k.world _ (fun w s => s.perm (.trans (.cons a (.cons b (.swap d c H))) (.trans (.cons a (.swap d b (c :: H))) (.swap d a (b :: c :: H)))))
theorem pull4 (k : Pre n L (St w0 D (e :: a :: b :: c :: d :: H)) F) : Pre n L (St w0 D (a :: b :: c :: d :: e :: H)) F := k.world _ (fun w s => s.perm (List.perm_middle (l₁ := [a, b, c, d]) (l₂ := H)))
theorem pull5 (k : Pre n L (St w0 D (f :: a :: b :: c :: d :: e :: H)) F) : Pre n L (St w0 D (a :: b :: c :: d :: e :: f :: H)) F := k.world _ (fun w s => s.perm (List.perm_middle (l₁ := [a, b, c, d, e]) (l₂ := H)))
theorem pull6 (k : Pre n L (St w0 D (g :: a :: b :: c :: d :: e :: f :: H)) F) : Pre n L (St w0 D (a :: b :: c :: d :: e :: f :: g :: H)) F := k.world _ (fun w s => s.perm (List.perm_middle (l₁ := [a, b, c, d, e, f]) (l₂ := H)))
theorem drop0 (k : Pre n L (St w0 D H) F) : Pre n L (St w0 D (a :: H)) F := k.world _ (fun w s => s.drop)
theorem row_sl {w : World} {e : TypeId} (h : (rowE v e E l).at w) : ∃ a c, v = .slice a l.length c := by
  obtain ⟨a, c, h, _⟩ := rowE_rd h; exact ⟨a, c, h⟩
theorem rd_sl {w : World} (h : RdV w v E l) : ∃ a c, v = .slice a l.length c := by
  obtain ⟨a, c, h, _⟩ := h; exact ⟨a, c, h⟩
theorem rd_none {w : World} {n c : Nat} (h : RdV w (.slice none n c) E l) : l = [] := by
  obtain ⟨a, c', e, _, h⟩ := h
  cases e
  rcases h with h | ⟨b, off, e, _⟩
  · exact h
  · cases e
theorem cells_eq {F : Act → World → Prop} {b : Nat} {t : TypeId} {cs cs' : List Value} (he : cs = cs') (k : Pre n L (St w0 D (cellsE b t cs' :: H)) F) : Pre n L (St w0 D (cellsE b t cs :: H)) F := he ▸ k
theorem row_eq {F : Act → World → Prop} {v : Value} {t : TypeId} {E : Enc α} {l l' : List α} (he : l = l') (k : Pre n L (St w0 D (rowE v t E l' :: H)) F) : Pre n L (St w0 D (rowE v t E l :: H)) F := he ▸ k
theorem row0 {F : Act → World → Prop} (e : TypeId) (E : Enc α) (a : Option Addr) (k : Pre n L (St w0 D (rowE (.slice a 0 0) e E [] :: H)) F) : Pre n L (St w0 D H) F := k.world _ (fun w s => s.row0 e E a)
theorem rowLit {F : Act → World → Prop} {b m : Nat} {e : TypeId} {cs : List Value} (E : Enc α) (l : List α) (hl : l.length = m) (hcs : cs = E.flat l) (k : Pre n L (St w0 D (rowE (.slice (some ⟨b, 0, none⟩) m m) e E l :: H)) F) : Pre n L (St w0 D (cellsE b e cs :: H)) F := k.world _ (fun w s => s.rowLit E l hl hcs)
end
end Go.Sep
namespace Go.Sep
section
variable {P : Program} {n : Nat} {L : Env} {o : Oper} {Q : Exit → Act → World → Prop} {K : Act → World → Prop} {w0 : World} {D : List Nat}
theorem e_call_00 {β : Type} {v : β → Value} {p : β → Prop} {E : World → Prop} {F : List Ent} {f : FuncId} {xs : List Operand} {ts : Array TypeId} {d : Nat} {vs : List Value} (s : Con P f vs E [] v p (fun b => [])) (ho : o.op = .call ⟨.value (.func f), xs.toArray, ts⟩) (hd : o.dst = some d) (hn : d.blt n = true)
    (hc : ∀ us w, (callFunc f us).run P w = .ok (.enter f us) w) (hv : evs L xs = some vs) (hE : ∀ w, St w0 D (F) w → E w) (h : ∀ b, p b → Pre n ((d, v b) :: L) (St w0 D (F)) K) : EOp P n L (St w0 D (F)) o Q K :=
  e_call ho hd hn hc hv (fun w h => s.frame (F := F) h (hE w h)) h
theorem e_call_01 {β : Type} {v : β → Value} {p : β → Prop} {E : World → Prop} {F : List Ent} {y0 : β → Ent} {f : FuncId} {xs : List Operand} {ts : Array TypeId} {d : Nat} {vs : List Value} (s : Con P f vs E [] v p (fun b => [y0 b])) (ho : o.op = .call ⟨.value (.func f), xs.toArray, ts⟩) (hd : o.dst = some d) (hn : d.blt n = true)
    (hc : ∀ us w, (callFunc f us).run P w = .ok (.enter f us) w) (hv : evs L xs = some vs) (hE : ∀ w, St w0 D (F) w → E w) (h : ∀ b, p b → Pre n ((d, v b) :: L) (St w0 D (y0 b :: F)) K) : EOp P n L (St w0 D (F)) o Q K :=
  e_call ho hd hn hc hv (fun w h => s.frame (F := F) h (hE w h)) h
theorem e_call_03 {β : Type} {v : β → Value} {p : β → Prop} {E : World → Prop} {F : List Ent} {y0 y1 y2 : β → Ent} {f : FuncId} {xs : List Operand} {ts : Array TypeId} {d : Nat} {vs : List Value} (s : Con P f vs E [] v p (fun b => [y0 b, y1 b, y2 b])) (ho : o.op = .call ⟨.value (.func f), xs.toArray, ts⟩) (hd : o.dst = some d) (hn : d.blt n = true)
    (hc : ∀ us w, (callFunc f us).run P w = .ok (.enter f us) w) (hv : evs L xs = some vs) (hE : ∀ w, St w0 D (F) w → E w) (h : ∀ b, p b → Pre n ((d, v b) :: L) (St w0 D (y0 b :: y1 b :: y2 b :: F)) K) : EOp P n L (St w0 D (F)) o Q K :=
  e_call ho hd hn hc hv (fun w h => s.frame (F := F) h (hE w h)) h
theorem e_call_04 {β : Type} {v : β → Value} {p : β → Prop} {E : World → Prop} {F : List Ent} {y0 y1 y2 y3 : β → Ent} {f : FuncId} {xs : List Operand} {ts : Array TypeId} {d : Nat} {vs : List Value} (s : Con P f vs E [] v p (fun b => [y0 b, y1 b, y2 b, y3 b])) (ho : o.op = .call ⟨.value (.func f), xs.toArray, ts⟩) (hd : o.dst = some d) (hn : d.blt n = true)
    (hc : ∀ us w, (callFunc f us).run P w = .ok (.enter f us) w) (hv : evs L xs = some vs) (hE : ∀ w, St w0 D (F) w → E w) (h : ∀ b, p b → Pre n ((d, v b) :: L) (St w0 D (y0 b :: y1 b :: y2 b :: y3 b :: F)) K) : EOp P n L (St w0 D (F)) o Q K :=
  e_call ho hd hn hc hv (fun w h => s.frame (F := F) h (hE w h)) h
theorem e_call_11 {β : Type} {v : β → Value} {p : β → Prop} {E : World → Prop} {F : List Ent} {x0 : Ent} {y0 : β → Ent} {f : FuncId} {xs : List Operand} {ts : Array TypeId} {d : Nat} {vs : List Value} (s : Con P f vs E [x0] v p (fun b => [y0 b])) (ho : o.op = .call ⟨.value (.func f), xs.toArray, ts⟩) (hd : o.dst = some d) (hn : d.blt n = true)
    (hc : ∀ us w, (callFunc f us).run P w = .ok (.enter f us) w) (hv : evs L xs = some vs) (hE : ∀ w, St w0 D (x0 :: F) w → E w) (h : ∀ b, p b → Pre n ((d, v b) :: L) (St w0 D (y0 b :: F)) K) : EOp P n L (St w0 D (x0 :: F)) o Q K :=
  e_call ho hd hn hc hv (fun w h => s.frame (F := F) h (hE w h)) h
theorem e_call_12 {β : Type} {v : β → Value} {p : β → Prop} {E : World → Prop} {F : List Ent} {x0 : Ent} {y0 y1 : β → Ent} {f : FuncId} {xs : List Operand} {ts : Array TypeId} {d : Nat} {vs : List Value} (s : Con P f vs E [x0] v p (fun b => [y0 b, y1 b])) (ho : o.op = .call ⟨.value (.func f), xs.toArray, ts⟩) (hd : o.dst = some d) (hn : d.blt n = true)
    (hc : ∀ us w, (callFunc f us).run P w = .ok (.enter f us) w) (hv : evs L xs = some vs) (hE : ∀ w, St w0 D (x0 :: F) w → E w) (h : ∀ b, p b → Pre n ((d, v b) :: L) (St w0 D (y0 b :: y1 b :: F)) K) : EOp P n L (St w0 D (x0 :: F)) o Q K :=
  e_call ho hd hn hc hv (fun w h => s.frame (F := F) h (hE w h)) h
theorem e_call_21 {β : Type} {v : β → Value} {p : β → Prop} {E : World → Prop} {F : List Ent} {x0 x1 : Ent} {y0 : β → Ent} {f : FuncId} {xs : List Operand} {ts : Array TypeId} {d : Nat} {vs : List Value} (s : Con P f vs E [x0, x1] v p (fun b => [y0 b])) (ho : o.op = .call ⟨.value (.func f), xs.toArray, ts⟩) (hd : o.dst = some d) (hn : d.blt n = true)
    (hc : ∀ us w, (callFunc f us).run P w = .ok (.enter f us) w) (hv : evs L xs = some vs) (hE : ∀ w, St w0 D (x0 :: x1 :: F) w → E w) (h : ∀ b, p b → Pre n ((d, v b) :: L) (St w0 D (y0 b :: F)) K) : EOp P n L (St w0 D (x0 :: x1 :: F)) o Q K :=
  e_call ho hd hn hc hv (fun w h => s.frame (F := F) h (hE w h)) h
theorem e_call_22 {β : Type} {v : β → Value} {p : β → Prop} {E : World → Prop} {F : List Ent} {x0 x1 : Ent} {y0 y1 : β → Ent} {f : FuncId} {xs : List Operand} {ts : Array TypeId} {d : Nat} {vs : List Value} (s : Con P f vs E [x0, x1] v p (fun b => [y0 b, y1 b])) (ho : o.op = .call ⟨.value (.func f), xs.toArray, ts⟩) (hd : o.dst = some d) (hn : d.blt n = true)
    (hc : ∀ us w, (callFunc f us).run P w = .ok (.enter f us) w) (hv : evs L xs = some vs) (hE : ∀ w, St w0 D (x0 :: x1 :: F) w → E w) (h : ∀ b, p b → Pre n ((d, v b) :: L) (St w0 D (y0 b :: y1 b :: F)) K) : EOp P n L (St w0 D (x0 :: x1 :: F)) o Q K :=
  e_call ho hd hn hc hv (fun w h => s.frame (F := F) h (hE w h)) h
theorem e_call_33 {β : Type} {v : β → Value} {p : β → Prop} {E : World → Prop} {F : List Ent} {x0 x1 x2 : Ent} {y0 y1 y2 : β → Ent} {f : FuncId} {xs : List Operand} {ts : Array TypeId} {d : Nat} {vs : List Value} (s : Con P f vs E [x0, x1, x2] v p (fun b => [y0 b, y1 b, y2 b])) (ho : o.op = .call ⟨.value (.func f), xs.toArray, ts⟩) (hd : o.dst = some d) (hn : d.blt n = true)
    (hc : ∀ us w, (callFunc f us).run P w = .ok (.enter f us) w) (hv : evs L xs = some vs) (hE : ∀ w, St w0 D (x0 :: x1 :: x2 :: F) w → E w) (h : ∀ b, p b → Pre n ((d, v b) :: L) (St w0 D (y0 b :: y1 b :: y2 b :: F)) K) : EOp P n L (St w0 D (x0 :: x1 :: x2 :: F)) o Q K :=
  e_call ho hd hn hc hv (fun w h => s.frame (F := F) h (hE w h)) h
theorem e_call_34 {β : Type} {v : β → Value} {p : β → Prop} {E : World → Prop} {F : List Ent} {x0 x1 x2 : Ent} {y0 y1 y2 y3 : β → Ent} {f : FuncId} {xs : List Operand} {ts : Array TypeId} {d : Nat} {vs : List Value} (s : Con P f vs E [x0, x1, x2] v p (fun b => [y0 b, y1 b, y2 b, y3 b])) (ho : o.op = .call ⟨.value (.func f), xs.toArray, ts⟩) (hd : o.dst = some d) (hn : d.blt n = true)
    (hc : ∀ us w, (callFunc f us).run P w = .ok (.enter f us) w) (hv : evs L xs = some vs) (hE : ∀ w, St w0 D (x0 :: x1 :: x2 :: F) w → E w) (h : ∀ b, p b → Pre n ((d, v b) :: L) (St w0 D (y0 b :: y1 b :: y2 b :: y3 b :: F)) K) : EOp P n L (St w0 D (x0 :: x1 :: x2 :: F)) o Q K :=
  e_call ho hd hn hc hv (fun w h => s.frame (F := F) h (hE w h)) h
theorem e_call_45 {β : Type} {v : β → Value} {p : β → Prop} {E : World → Prop} {F : List Ent} {x0 x1 x2 x3 : Ent} {y0 y1 y2 y3 y4 : β → Ent} {f : FuncId} {xs : List Operand} {ts : Array TypeId} {d : Nat} {vs : List Value} (s : Con P f vs E [x0, x1, x2, x3] v p (fun b => [y0 b, y1 b, y2 b, y3 b, y4 b])) (ho : o.op = .call ⟨.value (.func f), xs.toArray, ts⟩) (hd : o.dst = some d) (hn : d.blt n = true)
    (hc : ∀ us w, (callFunc f us).run P w = .ok (.enter f us) w) (hv : evs L xs = some vs) (hE : ∀ w, St w0 D (x0 :: x1 :: x2 :: x3 :: F) w → E w) (h : ∀ b, p b → Pre n ((d, v b) :: L) (St w0 D (y0 b :: y1 b :: y2 b :: y3 b :: y4 b :: F)) K) : EOp P n L (St w0 D (x0 :: x1 :: x2 :: x3 :: F)) o Q K :=
  e_call ho hd hn hc hv (fun w h => s.frame (F := F) h (hE w h)) h
end
end Go.Sep
namespace Go.Sep
section
variable {P : Program} {n : Nat} {L : Env} {X : World → Prop} {Q : Exit → Act → World → Prop}
theorem c_loop1 {A1 : Type} {c : Code} (Lv : A1 → Env) (Xv : A1 → World → Prop) (p : A1 → Prop) (μ : A1 → Nat) (z1 : A1) (h0 : p z1) (hL : Sub (Lv z1) L) (hX : ∀ w, X w → Xv z1 w)
    (round : ∀ a1, p a1 → Pre n (Lv a1) (Xv a1) (c.wp P (Exit.then (Round n (fun x : A1 => μ x) (fun x => Lv x) (fun x => Xv x) (fun x => p x) (μ a1)) Q))) : Pre n L X ((Code.loop c).wp P Q) :=
  c_loop (α := A1) (fun x => Lv x) (fun x => Xv x) (fun x => p x) (fun x => μ x) z1 h0 hL hX (fun x hp => round x hp)
theorem c_loop2 {A1 A2 : Type} {c : Code} (Lv : A1 → A2 → Env) (Xv : A1 → A2 → World → Prop) (p : A1 → A2 → Prop) (μ : A1 → A2 → Nat) (z1 : A1) (z2 : A2) (h0 : p z1 z2) (hL : Sub (Lv z1 z2) L) (hX : ∀ w, X w → Xv z1 z2 w)
    (round : ∀ a1 a2, p a1 a2 → Pre n (Lv a1 a2) (Xv a1 a2) (c.wp P (Exit.then (Round n (fun x : A1 × A2 => μ (x.1) (x.2)) (fun x => Lv (x.1) (x.2)) (fun x => Xv (x.1) (x.2)) (fun x => p (x.1) (x.2)) (μ a1 a2)) Q))) : Pre n L X ((Code.loop c).wp P Q) :=
  c_loop (α := A1 × A2) (fun x => Lv (x.1) (x.2)) (fun x => Xv (x.1) (x.2)) (fun x => p (x.1) (x.2)) (fun x => μ (x.1) (x.2)) (z1, z2) h0 hL hX (fun x hp => round (x.1) (x.2) hp)
theorem c_meet2 {A1 A2 : Type} {c : Code} {K : Act → World → Prop} (Lv : A1 → A2 → Env) (Xv : A1 → A2 → World → Prop) (p : A1 → A2 → Prop) (h1 : Pre n L X (c.wp P (Exit.then (Meet n (fun x : A1 × A2 => Lv (x.1) (x.2)) (fun x => Xv (x.1) (x.2)) (fun x => p (x.1) (x.2))) Q))) (h2 : ∀ a1 a2, p a1 a2 → Pre n (Lv a1 a2) (Xv a1 a2) K) : Pre n L X (c.wp P (Exit.then K Q)) :=
  fun a w k x => wp_mono (h1 a w k x) (fun e a' w' hq => by
    cases e <;> first | (obtain ⟨b, hp, hk, hx⟩ := hq; exact h2 _ _ hp a' w' hk hx) | exact hq)
theorem c_loop3 {A1 A2 A3 : Type} {c : Code} (Lv : A1 → A2 → A3 → Env) (Xv : A1 → A2 → A3 → World → Prop) (p : A1 → A2 → A3 → Prop) (μ : A1 → A2 → A3 → Nat) (z1 : A1) (z2 : A2) (z3 : A3) (h0 : p z1 z2 z3) (hL : Sub (Lv z1 z2 z3) L) (hX : ∀ w, X w → Xv z1 z2 z3 w)
    (round : ∀ a1 a2 a3, p a1 a2 a3 → Pre n (Lv a1 a2 a3) (Xv a1 a2 a3) (c.wp P (Exit.then (Round n (fun x : A1 × A2 × A3 => μ (x.1) (x.2.1) (x.2.2)) (fun x => Lv (x.1) (x.2.1) (x.2.2)) (fun x => Xv (x.1) (x.2.1) (x.2.2)) (fun x => p (x.1) (x.2.1) (x.2.2)) (μ a1 a2 a3)) Q))) : Pre n L X ((Code.loop c).wp P Q) :=
  c_loop (α := A1 × A2 × A3) (fun x => Lv (x.1) (x.2.1) (x.2.2)) (fun x => Xv (x.1) (x.2.1) (x.2.2)) (fun x => p (x.1) (x.2.1) (x.2.2)) (fun x => μ (x.1) (x.2.1) (x.2.2)) (z1, z2, z3) h0 hL hX (fun x hp => round (x.1) (x.2.1) (x.2.2) hp)
theorem c_meet3 {A1 A2 A3 : Type} {c : Code} {K : Act → World → Prop} (Lv : A1 → A2 → A3 → Env) (Xv : A1 → A2 → A3 → World → Prop) (p : A1 → A2 → A3 → Prop) (h1 : Pre n L X (c.wp P (Exit.then (Meet n (fun x : A1 × A2 × A3 => Lv (x.1) (x.2.1) (x.2.2)) (fun x => Xv (x.1) (x.2.1) (x.2.2)) (fun x => p (x.1) (x.2.1) (x.2.2))) Q))) (h2 : ∀ a1 a2 a3, p a1 a2 a3 → Pre n (Lv a1 a2 a3) (Xv a1 a2 a3) K) : Pre n L X (c.wp P (Exit.then K Q)) :=
  fun a w k x => wp_mono (h1 a w k x) (fun e a' w' hq => by
    cases e <;> first | (obtain ⟨b, hp, hk, hx⟩ := hq; exact h2 _ _ _ hp a' w' hk hx) | exact hq)
theorem c_loop4 {A1 A2 A3 A4 : Type} {c : Code} (Lv : A1 → A2 → A3 → A4 → Env) (Xv : A1 → A2 → A3 → A4 → World → Prop) (p : A1 → A2 → A3 → A4 → Prop) (μ : A1 → A2 → A3 → A4 → Nat) (z1 : A1) (z2 : A2) (z3 : A3) (z4 : A4) (h0 : p z1 z2 z3 z4) (hL : Sub (Lv z1 z2 z3 z4) L) (hX : ∀ w, X w → Xv z1 z2 z3 z4 w)
    (round : ∀ a1 a2 a3 a4, p a1 a2 a3 a4 → Pre n (Lv a1 a2 a3 a4) (Xv a1 a2 a3 a4) (c.wp P (Exit.then (Round n (fun x : A1 × A2 × A3 × A4 => μ (x.1) (x.2.1) (x.2.2.1) (x.2.2.2)) (fun x => Lv (x.1) (x.2.1) (x.2.2.1) (x.2.2.2)) (fun x => Xv (x.1) (x.2.1) (x.2.2.1) (x.2.2.2)) (fun x => p (x.1) (x.2.1) (x.2.2.1) (x.2.2.2)) (μ a1 a2 a3 a4)) Q))) : Pre n L X ((Code.loop c).wp P Q) :=
  c_loop (α := A1 × A2 × A3 × A4) (fun x => Lv (x.1) (x.2.1) (x.2.2.1) (x.2.2.2)) (fun x => Xv (x.1) (x.2.1) (x.2.2.1) (x.2.2.2)) (fun x => p (x.1) (x.2.1) (x.2.2.1) (x.2.2.2)) (fun x => μ (x.1) (x.2.1) (x.2.2.1) (x.2.2.2)) (z1, z2, z3, z4) h0 hL hX (fun x hp => round (x.1) (x.2.1) (x.2.2.1) (x.2.2.2) hp)
theorem c_meet4 {A1 A2 A3 A4 : Type} {c : Code} {K : Act → World → Prop} (Lv : A1 → A2 → A3 → A4 → Env) (Xv : A1 → A2 → A3 → A4 → World → Prop) (p : A1 → A2 → A3 → A4 → Prop) (h1 : Pre n L X (c.wp P (Exit.then (Meet n (fun x : A1 × A2 × A3 × A4 => Lv (x.1) (x.2.1) (x.2.2.1) (x.2.2.2)) (fun x => Xv (x.1) (x.2.1) (x.2.2.1) (x.2.2.2)) (fun x => p (x.1) (x.2.1) (x.2.2.1) (x.2.2.2))) Q))) (h2 : ∀ a1 a2 a3 a4, p a1 a2 a3 a4 → Pre n (Lv a1 a2 a3 a4) (Xv a1 a2 a3 a4) K) : Pre n L X (c.wp P (Exit.then K Q)) :=
  fun a w k x => wp_mono (h1 a w k x) (fun e a' w' hq => by
    cases e <;> first | (obtain ⟨b, hp, hk, hx⟩ := hq; exact h2 _ _ _ _ hp a' w' hk hx) | exact hq)
theorem c_loop5 {A1 A2 A3 A4 A5 : Type} {c : Code} (Lv : A1 → A2 → A3 → A4 → A5 → Env) (Xv : A1 → A2 → A3 → A4 → A5 → World → Prop) (p : A1 → A2 → A3 → A4 → A5 → Prop) (μ : A1 → A2 → A3 → A4 → A5 → Nat) (z1 : A1) (z2 : A2) (z3 : A3) (z4 : A4) (z5 : A5) (h0 : p z1 z2 z3 z4 z5) (hL : Sub (Lv z1 z2 z3 z4 z5) L) (hX : ∀ w, X w → Xv z1 z2 z3 z4 z5 w)
    (round : ∀ a1 a2 a3 a4 a5, p a1 a2 a3 a4 a5 → Pre n (Lv a1 a2 a3 a4 a5) (Xv a1 a2 a3 a4 a5) (c.wp P (Exit.then (Round n (fun x : A1 × A2 × A3 × A4 × A5 => μ (x.1) (x.2.1) (x.2.2.1) (x.2.2.2.1) (x.2.2.2.2)) (fun x => Lv (x.1) (x.2.1) (x.2.2.1) (x.2.2.2.1) (x.2.2.2.2)) (fun x => Xv (x.1) (x.2.1) (x.2.2.1) (x.2.2.2.1) (x.2.2.2.2)) (fun x => p (x.1) (x.2.1) (x.2.2.1) (x.2.2.2.1) (x.2.2.2.2)) (μ a1 a2 a3 a4 a5)) Q))) : Pre n L X ((Code.loop c).wp P Q) :=
  c_loop (α := A1 × A2 × A3 × A4 × A5) (fun x => Lv (x.1) (x.2.1) (x.2.2.1) (x.2.2.2.1) (x.2.2.2.2)) (fun x => Xv (x.1) (x.2.1) (x.2.2.1) (x.2.2.2.1) (x.2.2.2.2)) (fun x => p (x.1) (x.2.1) (x.2.2.1) (x.2.2.2.1) (x.2.2.2.2)) (fun x => μ (x.1) (x.2.1) (x.2.2.1) (x.2.2.2.1) (x.2.2.2.2)) (z1, z2, z3, z4, z5) h0 hL hX (fun x hp => round (x.1) (x.2.1) (x.2.2.1) (x.2.2.2.1) (x.2.2.2.2) hp)
end
end Go.Sep
namespace Go.Sep
open Go.Proofs.YtloldofjddbjoaaGreat
theorem rdv_of {α : Type} {w : World} {B : Nat} {A : Option Addr} {E : Enc α} {l : List α} {c : Nat} (h : Rd w B A (E.flat l)) (hc : l.length ≤ c) : RdV w (.slice A l.length c) E l := by
  refine ⟨A, c, rfl, hc, ?_⟩
  by_cases h0 : E.flat l = []
  · left
    have h1 := E.flat_len l
    rw [h0, List.length_nil] at h1
    have := E.pos
    rcases Nat.mul_eq_zero.1 h1.symm with h2 | h2
    · exact List.eq_nil_of_length_eq_zero h2
    · omega
  · right
    obtain ⟨b, off, e, _, hk⟩ := h h0
    exact ⟨b, off, e, hk⟩
theorem flat_of {α : Type} (E : Enc α) {ks : List Sc} {W : α → Prop} (hk : ks.length = E.sz) (one : ∀ cs, Kinds ks cs → ∃ a, cs = E.f a ∧ W a) : ∀ (n : Nat) (xs : List Value), xs.length = n * ks.length → (∀ i, i < n → Kinds ks ((xs.drop (i * ks.length)).take ks.length)) → ∃ l : List α, xs = E.flat l ∧ l.length = n ∧ ∀ a ∈ l, W a
  | 0, xs, h, _ => ⟨[], List.eq_nil_of_length_eq_zero (by simpa using h), rfl, by simp⟩
  | n + 1, xs, h, hc => by
    obtain ⟨a, ha, hw⟩ := one _ (hc 0 (by omega))
    rw [Nat.zero_mul, List.drop_zero] at ha
    obtain ⟨l, hl, hn, hW⟩ := flat_of E hk one n (xs.drop ks.length) (by rw [List.length_drop, h, Nat.add_mul]; omega) (fun i hi => by
      have := hc (i + 1) (by omega)
      rw [List.drop_drop]
      rwa [show ks.length + i * ks.length = (i + 1) * ks.length from by rw [Nat.add_mul]; omega])
    refine ⟨a :: l, ?_, by simp [hn], fun b hb => by rcases List.mem_cons.1 hb with rfl | hb; exact hw; exact hW b hb⟩
    rw [E.flat_cons, ← hl, ← ha, List.take_append_drop]
theorem flat_one' {α : Type} (E : Enc α) (f : α → Value) (hE : ∀ a, E.f a = [f a]) (l : List α) : E.flat l = l.map f := by
  induction l with
  | nil => rfl
  | cons a l ih => rw [E.flat_cons, hE, ih]; rfl
theorem wf_u8 {a : Int} (h : (Lit.int .u8 a).wf = true) : 0 ≤ a ∧ a ≤ 255 := by
  simp only [Lit.wf, Bool.and_eq_true, decide_eq_true_eq] at h
  exact ⟨h.1, h.2⟩
theorem rd_empty {α : Type} {w : World} {a : Option Addr} {c : Nat} (E : Enc α) : RdV w (.slice a 0 c) E ([] : List α) := ⟨a, c, rfl, Nat.zero_le _, .inl rfl⟩
def rdE {α : Type} (w0 : World) (s : Bool) (v : Value) (t : TypeId) (E : Enc α) (l : List α) : Ent := if s then rowE v t E l else ⟨none, fun _ => RdV w0 v E l⟩
theorem St.rdE {α : Type} {w0 w : World} {H : List Ent} {s : Bool} {v : Value} {t : TypeId} {E : Enc α} {l : List α} (h : St w0 [] H w) (i : Nat) (hi : H[i]? = some (Sep.rdE w0 s v t E l)) : RdV w v E l := by
  have hat := h.at i hi
  cases s with
  | true => exact rowE_rd hat
  | false => exact RdV.keep (hat : RdV w0 v E l) h (by simp)
theorem con_walk {P : Program} {f : FuncId} {vs : List Value} {E : World → Prop} {w : World} (s : Con P f vs E [] (fun _ : Unit => .bool true) (fun _ => True) (fun _ => [])) (hE : E w) : Calls P f vs.toArray w (fun e w' => e = .returned (.bool true) ∧ Go.RowKit.Below w.heap.size w w') :=
  (s w hE (HP.nil w)).mono (fun e w' ⟨b, he, _, h⟩ => ⟨he, St.below h⟩)
end Go.Sep
namespace Go.Sep
open Go.RowKit Go.Proofs.YtloldofjddbjoaaGreat
open Go.Instr
section
variable {P : Program} {n : Nat} {L : Env} {X : World → Prop} {o : Oper}
theorem q_iface {t : TypeId} {x : Operand} {v : Value} {d : TypeDesc} (ho : o.op = .makeInterface t x) (ht : P.underlying t = some d) (hd : ∀ ms, d ≠ .interface ms) (hx : ev L x = some v) : QOp P n L X o (.iface t v) :=
  QOp.mk (fun a => Instr.makeInterface t (a.eval x)) (fun a => by simp [execOp, ho]) (fun a w hk _ => by
    rw [hk.eval hx]
    unfold Instr.makeInterface
    simp only [Sem.run_bind, run_und ht]
    cases d with
    | interface ms => exact absurd rfl (hd ms)
    | _ => rfl)
theorem q_assert_yes {t u : TypeId} {x : Operand} {v : Value} {d : TypeDesc} (ho : o.op = .typeAssert x t u true) (ht : P.underlying u = some d) (hd : ∀ ms, d ≠ .interface ms) (hx : ev L x = some (.iface u v)) : QOp P n L X o (.tuple #[v, .bool true]) :=
  QOp.mk (fun a => Instr.typeAssert (a.eval x) t u true) (fun a => by simp [execOp, ho]) (fun a w hk _ => by
    rw [hk.eval hx]
    unfold Instr.typeAssert
    simp only [Sem.run_bind, run_und ht]
    cases d with
    | interface ms => exact absurd rfl (hd ms)
    | _ => simp)
theorem q_assert_no {t u s : TypeId} {x : Operand} {v z : Value} {d : TypeDesc} (ho : o.op = .typeAssert x t u true) (ht : P.underlying u = some d) (hd : ∀ ms, d ≠ .interface ms) (hx : ev L x = some (.iface s v)) (hs : s ≠ u) (hz : ∀ w, (zeroValue u).run P w = .ok z w) : QOp P n L X o (.tuple #[z, .bool false]) :=
  QOp.mk (fun a => Instr.typeAssert (a.eval x) t u true) (fun a => by simp [execOp, ho]) (fun a w hk _ => by
    rw [hk.eval hx]
    unfold Instr.typeAssert
    simp only [Sem.run_bind, run_und ht]
    cases d with
    | interface ms => exact absurd rfl (hd ms)
    | _ => simp [hs, hz w])
variable {Q : Exit → Act → World → Prop} {K : Act → World → Prop}
theorem e_callG {β : Type} {v : β → Value} {p : β → Prop} {X' : β → World → Prop} {f : FuncId} {d : Nat} {vs : List Value} (hd : o.dst = some d) (hn : d.blt n = true)
    (hrun : ∀ a w, Know n L a → X w → (execOp a.eval o).run P w = .ok (.enter f vs.toArray) w)
    (hs : ∀ w, X w → Calls P f vs.toArray w (fun e w' => ∃ b, e = .returned (v b) ∧ p b ∧ X' b w')) (h : ∀ b, p b → Pre n ((d, v b) :: L) (X' b) K) : EOp P n L X o Q K := fun a w k x => by
  show o.upon P a K Q ((execOp a.eval o).run P w)
  rw [hrun a w k x]
  show Calls P f vs.toArray w _
  refine (hs w x).mono ?_
  rintro e w' ⟨b, rfl, hp, hx⟩
  show K (a.put o.dst (v b)) w'
  rw [hd]
  exact h b hp _ _ (k.put _ hn) hx
theorem run_method {r : Operand} {name : String} {xs : List Operand} {ts : Array TypeId} {t : TypeId} {x : Value} {us : List Value} {f : FuncId} {vs : List Value} (ho : o.op = .call ⟨.invoke r name, xs.toArray, ts⟩) (hr : ev L r = some (.iface t x)) (hv : evs L xs = some us)
    (hm : ∀ w, (callMethod (.iface t x) name us.toArray).run P w = .ok (.enter f vs.toArray) w) (a : Act) (w : World) (k : Know n L a) : (execOp a.eval o).run P w = .ok (.enter f vs.toArray) w := by
  have hargs : (xs.toArray.map a.eval) = us.toArray := by rw [List.map_toArray, k.evals hv]
  have hx : ((#[Value.iface t x] ++ us.toArray).extract 1 (#[Value.iface t x] ++ us.toArray).size) = us.toArray := by simp
  have h0 : (#[Value.iface t x] ++ us.toArray)[0]? = some (.iface t x) := by simp
  simp only [execOp, ho, resolve, Sem.run_bind, Sem.run_pure, Result.andThen_ok, invoke, hargs, k.eval hr, h0, hx, hm]
end
end Go.Sep
namespace Go.Proofs.YtloldofjddbjoaaGreat
open Go.Sep Go.RowKit
section
variable {P : Program} {n : Nat} {L : Env} {X : World → Prop} {Q : Exit → Act → World → Prop}
theorem c_scope {c rest : Code} (l : Nat) (hf : findLabel c l = some rest) (h : Pre n L X (c.wp P (Exit.jump l (rest.wp P (Exit.noGoto Q)) Q))) : Pre n L X ((Code.scope c).wp P Q) := fun a w k x =>
  wp_scope_jumps l _ (fun _ _ => 0) hf (h a w k x) (fun a w hJ => wp_mono hJ (fun e a' w' hq => by
    cases e <;> first | exact hq | exact hq.elim))
theorem c_label {l : Nat} (h : Pre n L X (Q .normal)) : Pre n L X ((Code.label l).wp P Q) := fun a w k x => wp_label (h a w k x)
theorem c_goto {l : Nat} (h : Pre n L X (Q (.goto l))) : Pre n L X ((Code.goto l).wp P Q) := fun a w k x => wp_goto (h a w k x)
theorem k_then_goto {K : Act → World → Prop} {l : Nat} (h : Pre n L X (Q (.goto l))) : Pre n L X (Exit.then K Q (.goto l)) := h
theorem k_block_goto {id l : Nat} (h : Pre n L X (Q (.goto l))) : Pre n L X (Exit.inBlock id Q (.goto l)) := h
theorem k_jump_goto {J : Act → World → Prop} {l : Nat} (h : Pre n L X J) : Pre n L X (Exit.jump l J Q (.goto l)) := fun a w k x => ⟨rfl, h a w k x⟩
theorem k_jump_ret {J : Act → World → Prop} {l : Nat} (h : Pre n L X (Q .ret)) : Pre n L X (Exit.jump l J Q .ret) := h
theorem k_nogoto_ret (h : Pre n L X (Q .ret)) : Pre n L X (Exit.noGoto Q .ret) := h
theorem blind_jump {J : Act → World → Prop} {l : Nat} (h : Blind Q) : Blind (Exit.jump l J Q) := fun c a d v w hq => h c a d v w hq
end
end Go.Proofs.YtloldofjddbjoaaGreat
namespace Go.Sep
section tail
variable {P : Program} {ops : Array Oper} {Q : Exit → Act → World → Prop} {md : Region.Mode} {S : World → Prop} {T : List Nat}
def tailOk8 (md : Region.Mode) (ops : Array Oper) (T : List Nat) : Bool := T.all (fun t => (List.range ops.size).all (fun i => T.contains i || waitsFor md ops i 8 t))
theorem tailOk_spec8 {listed : Array Bool} (h : tailOk8 md ops T = true) (hc : Closed md ops listed) {t i : Nat} (ht : T.contains t = true) (hi : T.contains i = false) (hlt : i < ops.size) (hr : t ∈ Region.ready md ops listed) : listed.getD i false = true := by
  have h1 := List.all_eq_true.1 (List.all_eq_true.1 h t (by simpa using ht)) i (List.mem_range.2 hlt)
  rw [hi, Bool.false_or] at h1
  obtain ⟨_, ot, hot, hall⟩ := mem_ready.1 hr
  exact waits_listed hc 8 t h1 (fun o ho => by rw [hot] at ho; cases ho; exact hall)
theorem wpAnyT_first8 {i : Nat} {oi : Oper} {v : Value} (hi : ops[i]? = some oi) (hT : tailOk8 md ops T = true) (hiT : T.contains i = false) (hsel : ∀ (j : Nat) (o : Oper) cs b, ops[j]? = some o → o.op ≠ .select cs b)
    (hQ : ∀ c a w, Q (.panic c) (a.put oi.dst v) w → Q (.panic c) a w) :
    ∀ (fuel : Nat) (listed : Array Bool) (a : Act) (w : World), Closed md ops listed →
      (∀ j oj, ops[j]? = some oj → j ≠ i → listed.getD j true = false → (∀ e ∈ oj.after, Region.binds md e = true → e.on ≠ i) → oi.apart ops oj = true) →
      i ∈ Region.ready md ops listed → YieldsIf P ops S oi v a → S w →
      wpAnyT P md ops Q S T fuel (listed.setIfInBounds i true) (a.put oi.dst v) w → wpAnyT P md ops Q S T (fuel + 1) listed a w := by
  intro fuel
  induction fuel with
  | zero =>
    intro listed a w _ _ hr hy hS H
    refine ⟨fun h => (by rw [h] at hr; cases hr), fun j hj => ?_⟩
    by_cases hji : j = i
    · subst hji; exact hy.wpOp hi hS ⟨fun _ => hS, H⟩
    · have := ready_mono hj hji
      rw [H.1] at this
      cases this
  | succ fuel ih =>
    intro listed a w hcl hfree hr hy hS H
    refine ⟨fun h => (by rw [h] at hr; cases hr), fun j hj => ?_⟩
    by_cases hji : j = i
    · subst hji; exact hy.wpOp hi hS ⟨fun _ => hS, H⟩
    · have h1 := H.2 j (ready_mono hj hji)
      obtain ⟨hjun, oj, hoj, hall⟩ := mem_ready.1 hj
      have hnl : listed.getD i false ≠ true := fun h1 => by
        have h0 := (mem_ready.1 hr).1
        rcases Nat.lt_or_ge i listed.size with h' | h'
        · simp [h'] at h0 h1; rw [h0] at h1; cases h1
        · simp [Array.getElem?_eq_none h'] at h1
      have hnot : ∀ e ∈ oj.after, Region.binds md e = true → e.on ≠ i := fun e he hb heq => hnl (heq ▸ hall e he hb)
      have hjT : T.contains j = false := by
        cases hc : T.contains j with
        | false => rfl
        | true => exact absurd (tailOk_spec8 hT hcl hc hiT (Array.getElem?_eq_some_iff.1 hi).1 hj) hnl
      have h2 := wpOp_putIf hoj (hfree j oj hoj hji hjun hnot) (fun cs b => hsel i oi cs b hi) (fun cs b => hsel j oj cs b hoj) hQ hy h1
      have hfree' : ∀ k ok, ops[k]? = some ok → k ≠ i → (listed.setIfInBounds j true).getD k true = false →
          (∀ e ∈ ok.after, Region.binds md e = true → e.on ≠ i) → oi.apart ops ok = true := fun k ok hk hki hun hno => by
        refine hfree k ok hk hki ?_ hno
        by_cases hjk : j = k
        · subst hjk; exact hjun
        · rw [getD_set_ne true hjk] at hun; exact hun
      refine wpOp_mono (fun a' w' h3 => ⟨h3.2.1, ih (listed.setIfInBounds j true) a' w' (closed_set hcl hj) hfree' (ready_mono hr (Ne.symm hji)) h3.1 (h3.2.1 hjT) ?_⟩) h2
      rw [Array.setIfInBounds_comm _ _ hji]
      exact h3.2.2
end tail
theorem wpT_take8 {P : Program} {ops : Array Oper} {Q : Exit → Act → World → Prop} {S : World → Prop} {T : List Nat} {i : Nat} {oi : Oper} {v : Value} {fuel : Nat} {listed : Array Bool} {a : Act} {w : World} (hcl : Closed .any ops listed) (hi : ops[i]? = some oi) (hT : tailOk8 .any ops T = true) (hiT : T.contains i = false)
    (hs : Region.noSelect ops = true) (hf : Region.free .any ops listed i = true) (hr : (Region.ready .any ops listed).contains i = true)
    (hQ : ∀ c a w, Q (.panic c) (a.put oi.dst v) w → Q (.panic c) a w) (hy : YieldsIf P ops S oi v a) (hS : S w)
    (h : wpAnyT P .any ops Q S T fuel (listed.setIfInBounds i true) (a.put oi.dst v) w) : wpAnyT P .any ops Q S T (fuel + 1) listed a w :=
  wpAnyT_first8 hi hT hiT (Region.noSelect_spec hs) hQ fuel listed a w hcl (Region.free_spec hi hf) (by simpa using hr) hy hS h
theorem wpT_one8 {P : Program} {ops : Array Oper} {Q : Exit → Act → World → Prop} {S : World → Prop} {T : List Nat} {i : Nat} {fuel : Nat} {listed : Array Bool} {a : Act} {w : World} (hr : Region.ready .any ops listed = [i])
    (h : wpOp P ops Q i (fun a' w' => (T.contains i = false → S w') ∧ wpAnyT P .any ops Q S T fuel (listed.setIfInBounds i true) a' w') a w) : wpAnyT P .any ops Q S T (fuel + 1) listed a w :=
  ⟨fun h0 => (by rw [h0] at hr; cases hr), fun j hj => by rw [hr] at hj; simp only [List.mem_singleton] at hj; subst hj; exact h⟩
theorem wpD_sound8 {P : Program} {ops : Array Oper} {Q : Exit → Act → World → Prop} (hB : Blind Q) {S : World → Prop} {T : List Nat} (hT : tailOk8 .any ops T = true) (hs : Region.noSelect ops = true) : ∀ (ord : List (Nat × Kind)) (l : List (Oper × Kind)) (listed : Array Bool) (a : Act) (w : World),
    l.map (fun x => some x.1) = ord.map (fun x => ops[x.1]?) → l.map (·.2) = ord.map (·.2) → orderOk ops T ord listed = true → Closed .any ops listed → (S w ∨ (ord.all (fun x => match x.2 with | none => true | _ => false)) = true) → wpD P ops Q S l a w → wpAnyT P .any ops Q S T ord.length listed a w
  | [], l, listed, a, w, h1, h2, h3, hcl, hS, hw => by
    cases l with
    | nil => exact ⟨by simpa [orderOk] using h3, hw⟩
    | cons x l => simp at h1
  | (i, q) :: ord, [], listed, a, w, h1, h2, h3, hcl, hS, hw => by simp at h1
  | (i, q) :: ord, (o, q') :: l, listed, a, w, h1, h2, h3, hcl, hS, hw => by
    simp only [List.map_cons, List.cons.injEq] at h1 h2
    obtain ⟨ho, h1⟩ := h1
    obtain ⟨rfl, h2⟩ := h2
    match q', h2, h3, hS, hw with
    | some true, h2, h3, hS, hw =>
      simp only [orderOk, Bool.and_eq_true, Bool.not_eq_true'] at h3
      obtain ⟨⟨⟨hiT, hf⟩, hr⟩, h3⟩ := h3
      have hS' : S w := hS.resolve_right (by simp)
      obtain ⟨v, hy, hw⟩ := hw
      have hri : i ∈ Region.ready .any ops listed := by simpa using hr
      exact wpT_take8 hcl ho.symm hT hiT hs hf hr (fun c a w h => hB c a _ _ w h) hy hS' (wpD_sound8 hB hT hs ord l _ _ _ h1 h2 h3 (closed_set hcl hri) (.inl hS') hw)
    | some false, h2, h3, hS, hw =>
      simp only [orderOk, Bool.and_eq_true, beq_iff_eq] at h3
      obtain ⟨hr, h3⟩ := h3
      have hS' : S w := hS.resolve_right (by simp)
      have hri : i ∈ Region.ready .any ops listed := by rw [hr]; exact List.mem_cons_self ..
      refine wpT_one8 hr ?_
      unfold wpOp
      rw [← ho]
      simp only
      unfold wpD at hw
      split
      · rename_i hq
        rw [if_pos hq] at hw
        exact .inl (Oper.wp_mono (fun a w h => ⟨fun _ => h.1, wpD_sound8 hB hT hs ord l _ _ _ h1 h2 h3 (closed_set hcl hri) (.inl h.1) h.2⟩) hw)
      · rename_i hq
        rw [if_neg hq] at hw
        exact ⟨fun _ => hS', wpD_sound8 hB hT hs ord l _ _ _ h1 h2 h3 (closed_set hcl hri) (.inl hS') hw⟩
    | none, h2, h3, hS, hw =>
      simp only [orderOk, Bool.and_eq_true, beq_iff_eq] at h3
      obtain ⟨⟨⟨hiT, hr⟩, hall⟩, h3⟩ := h3
      have hri : i ∈ Region.ready .any ops listed := by rw [hr]; exact List.mem_cons_self ..
      refine wpT_one8 hr ?_
      unfold wpOp
      rw [← ho]
      simp only
      unfold wpD at hw
      split
      · rename_i hq
        rw [if_pos hq] at hw
        exact .inl (Oper.wp_mono (fun a w h => ⟨fun hc => (by rw [hiT] at hc; cases hc), wpD_sound8 hB hT hs ord l _ _ _ h1 h2 h3 (closed_set hcl hri) (.inr hall) h⟩) hw)
      · rename_i hq
        rw [if_neg hq] at hw
        exact ⟨fun hc => (by rw [hiT] at hc; cases hc), wpD_sound8 hB hT hs ord l _ _ _ h1 h2 h3 (closed_set hcl hri) (.inr hall) hw⟩
section region
variable {P : Program} {n : Nat} {L : Env} {X : World → Prop} {Q : Exit → Act → World → Prop} {ops : Array Oper}
theorem c_draw8 {id : Nat} {l0 : List Oper} (ord : List (Nat × Kind)) (T : List Nat) (l : List (Oper × Kind)) (S : World → Prop) (hB : Blind Q) (hm : P.follows .mixedOrders = true) (hs : Region.noSelect l0.toArray = true) (hT : tailOk8 .any l0.toArray T = true) (hl : ord.length = l0.length)
    (h1 : l.map (fun x => some x.1) = ord.map (fun x => l0[x.1]?)) (h2 : l.map (·.2) = ord.map (·.2)) (hok : orderOk l0.toArray T ord (Array.replicate l0.length false) = true)
    (hd : Drawn X) (hS : ∀ w, X w → S w) (h : Pre n L X (wpD P l0.toArray Q S l)) : Pre n L X ((Code.region id l0.toArray true).wp P Q) := fun a w k x => by
  refine wp_region_any hm (wpAny_of_T (S := S) (T := T) _ _ _ _ ?_)
  have h1' : l.map (fun x => some x.1) = ord.map (fun x => l0.toArray[x.1]?) := by simpa using h1
  rw [List.size_toArray, ← hl]
  exact wpD_sound8 hB hT hs ord l _ a _ h1' h2 (by rw [hl]; exact hok) (by rw [hl]; simpa using closed_none (ops := l0.toArray)) (.inl (hS _ (hd w _ x))) (h a _ k (hd w _ x))
end region
end Go.Sep
namespace Go.Sep
def AnyC (P : Program) (l : List Oper) (Q : Exit → Act → World → Prop) (S : World → Prop) (T : List Nat) (k : Nat) (listed : Array Bool) : Act → World → Prop := fun a w => tailOk8 .any l.toArray T = true → Closed .any l.toArray listed → wpAnyT P .any l.toArray Q S T k listed a w
def BehindC (P : Program) (l : List Oper) (Q : Exit → Act → World → Prop) (S : World → Prop) (T : List Nat) (k : Nat) (listed : Array Bool) (i : Nat) : Act → World → Prop := fun a w => (T.contains i = false → S w) ∧ AnyC P l Q S T k (listed.setIfInBounds i true) a w
section anyC
variable {P : Program} {n : Nat} {L : Env} {X : World → Prop} {Q : Exit → Act → World → Prop} {S : World → Prop} {T : List Nat} {l : List Oper} {listed : Array Bool} {k : Nat}
end anyC
section
variable {P : Program} {n : Nat} {L : Env} {X : World → Prop} {o : Oper}
end
end Go.Sep
namespace Go.Sep
theorem I.{u} {α : Sort u} {a : α} : a = a := rfl
section short
variable {P : Program} {n : Nat} {L : Env} {X : World → Prop} {Q : Exit → Act → World → Prop} {ops : Array Oper} {o : Oper} {rest : List Oper} {restD : List (Oper × Kind)} {S : World → Prop} {v : Value} {d : Nat} {x : Operand} {p : Addr}
theorem Lq (h : (o.dst, wantL ops L o, d.blt n) = (some d, some true, true)) (hq : QOp P n L X o v) (k : Pre n ((d, v) :: L) X (wpL P ops Q rest)) : Pre n L X (wpL P ops Q (o :: rest)) := by
  simp only [Prod.mk.injEq] at h
  exact l_q h.1 hq h.2.1 h.2.2 k
theorem Lm (h : (o.dst, o.op, ev L x, wantL ops L o, d.blt n) = (some d, Op.move x, some v, some true, true)) (k : Pre n ((d, v) :: L) X (wpL P ops Q rest)) : Pre n L X (wpL P ops Q (o :: rest)) := by
  simp only [Prod.mk.injEq] at h
  exact l_q h.1 (q_move h.2.1 h.2.2.1) h.2.2.2.1 h.2.2.2.2 k
theorem Las (h : (o.dst, o.op, ev L x, wantL ops L o, d.blt n) = (some d, Op.assign x, some v, some true, true)) (k : Pre n ((d, v) :: L) X (wpL P ops Q rest)) : Pre n L X (wpL P ops Q (o :: rest)) := by
  simp only [Prod.mk.injEq] at h
  exact l_q h.1 (q_assign h.2.1 h.2.2.1) h.2.2.2.1 h.2.2.2.2 k
theorem Lc (h : (o.dst, o.op, ev L x, wantL ops L o, d.blt n) = (some d, Op.nilCheck x, some (.pointer (some p)), some true, true)) (k : Pre n ((d, .pointer (some p)) :: L) X (wpL P ops Q rest)) : Pre n L X (wpL P ops Q (o :: rest)) := by
  simp only [Prod.mk.injEq] at h
  exact l_q h.1 (q_nilCheck h.2.1 h.2.2.1) h.2.2.2.1 h.2.2.2.2 k
theorem Lx (h : (o.dst, wantL ops L o, d.blt n) = (some d, some false, true)) (k : Pre n ((d, undef) :: L) X (wpL P ops Q rest)) : Pre n L X (wpL P ops Q (o :: rest)) := by
  simp only [Prod.mk.injEq] at h
  exact l_not h.1 h.2.1 h.2.2 k
theorem Dq (h : (o.dst, wantL ops L o, d.blt n) = (some d, some true, true)) (hq : QOp P n L S o v) (k : Pre n ((d, v) :: L) X (wpD P ops Q S restD)) : Pre n L X (wpD P ops Q S ((o, some true) :: restD)) := by
  simp only [Prod.mk.injEq] at h
  exact d_q h.1 hq h.2.1 h.2.2 k
theorem Dm (h : (o.dst, o.op, ev L x, wantL ops L o, d.blt n) = (some d, Op.move x, some v, some true, true)) (k : Pre n ((d, v) :: L) X (wpD P ops Q S restD)) : Pre n L X (wpD P ops Q S ((o, some true) :: restD)) := by
  simp only [Prod.mk.injEq] at h
  exact d_q h.1 (q_move h.2.1 h.2.2.1) h.2.2.2.1 h.2.2.2.2 k
theorem Das (h : (o.dst, o.op, ev L x, wantL ops L o, d.blt n) = (some d, Op.assign x, some v, some true, true)) (k : Pre n ((d, v) :: L) X (wpD P ops Q S restD)) : Pre n L X (wpD P ops Q S ((o, some true) :: restD)) := by
  simp only [Prod.mk.injEq] at h
  exact d_q h.1 (q_assign h.2.1 h.2.2.1) h.2.2.2.1 h.2.2.2.2 k
theorem Dc (h : (o.dst, o.op, ev L x, wantL ops L o, d.blt n) = (some d, Op.nilCheck x, some (.pointer (some p)), some true, true)) (k : Pre n ((d, .pointer (some p)) :: L) X (wpD P ops Q S restD)) : Pre n L X (wpD P ops Q S ((o, some true) :: restD)) := by
  simp only [Prod.mk.injEq] at h
  exact d_q h.1 (q_nilCheck h.2.1 h.2.2.1) h.2.2.2.1 h.2.2.2.2 k
theorem Dx {q : Kind} (h : (o.dst, wantL ops L o, d.blt n) = (some d, some false, true)) (k : Pre n ((d, undef) :: L) X (wpD P ops Q S restD)) : Pre n L X (wpD P ops Q S ((o, q) :: restD)) := by
  simp only [Prod.mk.injEq] at h
  exact d_not h.1 h.2.1 h.2.2 k
theorem Cr {id : Nat} {l : List Oper} (hl : ops = l.toArray) (h : Pre n L X (wpL P ops Q l)) : Pre n L X ((Code.region id ops false).wp P Q) := c_region l hl h
theorem Cs {id : Nat} {l : List Oper} {c : Code} (hl : ops = l.toArray) (h : Pre n L X (wpL P ops (Exit.then (c.wp P Q) Q) l)) : Pre n L X ((Code.seq (Code.region id ops false) c).wp P Q) := c_seq (c_region l hl h)
theorem Kt {K : Act → World → Prop} (h : Pre n L X K) : Pre n L X (Exit.then K Q .normal) := h
theorem Ks {c e : Code} (h : Pre n L X (c.wp P (Exit.then (e.wp P Q) Q))) : Pre n L X (Exit.then ((Code.seq c e).wp P Q) Q .normal) := k_then (c_seq h)
theorem Nk {K : Act → World → Prop} (h : Pre n L X K) : Pre n L X (wpL P ops (Exit.then K Q) []) := l_nil (k_then h)
theorem Ns {c e : Code} (h : Pre n L X (c.wp P (Exit.then (e.wp P Q) Q))) : Pre n L X (wpL P ops (Exit.then ((Code.seq c e).wp P Q) Q) []) := l_nil (k_then (c_seq h))
theorem Ak {K : Act → World → Prop} (h : (o.dst, o.op, ev L x, wantL ops L o, d.blt n) = (some d, Op.assign x, some v, some true, true)) (k : Pre n ((d, v) :: L) X K) : Pre n L X (wpL P ops (Exit.then K Q) [o]) := Las h (l_nil (k_then k))
theorem Sb {F : Act → World → Prop} (t : Nat) (c : Bool) {b : Bool} (hl : look L t = some (.bool b)) (e : b = c) (h : Pre n ((t, .bool c) :: L) X F) : Pre n L X F := Pre.setB hl e h
theorem Sv' {F : Act → World → Prop} (t : Nat) (c : Value) {b : Value} (hl : look L t = some b) (e : b = c) (h : Pre n ((t, c) :: L) X F) : Pre n L X F := Pre.setV hl e h
theorem Hat {w0 : World} {D : List Nat} {H : List Ent} {e : Ent} (i : Nat) (hi : H[i]? = some e) : ∀ w, St w0 D H w → e.at w := fun _ h => h.at i hi
theorem Hrd {w0 : World} {D : List Nat} {H : List Ent} {α : Type} {v : Value} {t : TypeId} {E : Enc α} {l : List α} (i : Nat) (hi : H[i]? = some (rowE v t E l)) : ∀ w, St w0 D H w → RdV w v E l := fun _ h => h.rd i hi
abbrev O : Kind := some true
abbrev V : Kind := some false
abbrev W : Kind := none
theorem D4 {id : Nat} {l0 : List Oper} (ord : List (Nat × Kind)) (T : List Nat) (l : List (Oper × Kind)) (S : World → Prop) (hm : P.follows .mixedOrders = true) (hl : ord.length = l0.length)
    (h1 : l.map (fun x => some x.1) = ord.map (fun x => l0[x.1]?)) (h2 : l.map (·.2) = ord.map (·.2)) (hd : Drawn X) (hS : ∀ w, X w → S w) (h : Pre n L X (wpD P l0.toArray Q S l)) (hB : Blind Q := by repeat (first | exact blind_body | refine blind_then ?_ | refine blind_block ?_)) (hs : Region.noSelect l0.toArray = true := by kernel_rfl) (hT : tailOk .any l0.toArray T = true := by kernel_rfl) (hok : orderOk l0.toArray T ord (Array.replicate l0.length false) = true := by kernel_rfl) : Pre n L X ((Code.region id l0.toArray true).wp P Q) := c_draw ord T l S hB hm hs hT hl h1 h2 hok hd hS h
theorem D8 {id : Nat} {l0 : List Oper} (ord : List (Nat × Kind)) (T : List Nat) (l : List (Oper × Kind)) (S : World → Prop) (hm : P.follows .mixedOrders = true) (hl : ord.length = l0.length)
    (h1 : l.map (fun x => some x.1) = ord.map (fun x => l0[x.1]?)) (h2 : l.map (·.2) = ord.map (·.2)) (hd : Drawn X) (hS : ∀ w, X w → S w) (h : Pre n L X (wpD P l0.toArray Q S l)) (hB : Blind Q := by repeat (first | exact blind_body | refine blind_then ?_ | refine blind_block ?_)) (hs : Region.noSelect l0.toArray = true := by kernel_rfl) (hT : tailOk8 .any l0.toArray T = true := by kernel_rfl) (hok : orderOk l0.toArray T ord (Array.replicate l0.length false) = true := by kernel_rfl) : Pre n L X ((Code.region id l0.toArray true).wp P Q) := c_draw8 ord T l S hB hm hs hT hl h1 h2 hok hd hS h
theorem B4 : (∀ (p : Prop) [Decidable p], (decide p = true) = p) ∧ (∀ (p : Prop) [Decidable p], (decide p = false) = ¬p) ∧ (∀ b : Bool, ((!b) = true) = (b = false)) ∧ (∀ b : Bool, ((!b) = false) = (b = true)) := ⟨fun p _ => by simp, fun p _ => by simp, fun b => by simp, fun b => by simp⟩
theorem Ih {α : Type} {p : α → Prop} : ∀ w, p w → p w := fun _ h => h
theorem Tt {α : Type} {p : α → Prop} : ∀ w, p w → True := fun _ _ => trivial
theorem H2 {w0 : World} {D : List Nat} {H : List Ent} {e f : Ent} (i j : Nat) (h : (H[i]?, H[j]?) = (some e, some f)) : ∀ w, St w0 D H w → e.at w ∧ f.at w := fun _ x => by
  simp only [Prod.mk.injEq] at h
  exact ⟨x.at i h.1, x.at j h.2⟩
theorem Sn {t : Nat} {v : Value} {A B : Env} (hl : look B t = some v) (h : Sub A B) : Sub ((t, v) :: A) B := Sub.cons hl h
theorem Lfa {s : TypeId} {i b off : Nat} {fs : List Field} {f : Field} {sz : Nat} (hs : P.underlying s = some (.struct fs.toArray)) (h : (o.dst, o.op, fs[i]?, ev L x, wantL ops L o, d.blt n) = (some d, Op.fieldAddr s x i, some f, some (.pointer (some ⟨b, off, none⟩)), some true, true)) (hz : ∀ w, (sizeOf f.type).run P w = .ok sz w) (hnz : sz.beq 0 = false) (k : Pre n ((d, .pointer (some ⟨b, off + f.offset, none⟩)) :: L) X (wpL P ops Q rest)) : Pre n L X (wpL P ops Q (o :: rest)) := by
  simp only [Prod.mk.injEq] at h
  exact l_q h.1 (q_fieldAddr h.2.1 hs h.2.2.1 hz hnz h.2.2.2.1) h.2.2.2.2.1 h.2.2.2.2.2 k
theorem Dfa {s : TypeId} {i b off : Nat} {fs : List Field} {f : Field} {sz : Nat} (hs : P.underlying s = some (.struct fs.toArray)) (h : (o.dst, o.op, fs[i]?, ev L x, wantL ops L o, d.blt n) = (some d, Op.fieldAddr s x i, some f, some (.pointer (some ⟨b, off, none⟩)), some true, true)) (hz : ∀ w, (sizeOf f.type).run P w = .ok sz w) (hnz : sz.beq 0 = false) (k : Pre n ((d, .pointer (some ⟨b, off + f.offset, none⟩)) :: L) X (wpD P ops Q S restD)) : Pre n L X (wpD P ops Q S ((o, some true) :: restD)) := by
  simp only [Prod.mk.injEq] at h
  exact d_q h.1 (q_fieldAddr h.2.1 hs h.2.2.1 hz hnz h.2.2.2.1) h.2.2.2.2.1 h.2.2.2.2.2 k
theorem Lo {w0 : World} {D : List Nat} {H : List Ent} {t T : TypeId} {b off : Nat} {cs : List Value} (hg : ∀ w, (isAgg t).run P w = .ok false w) (i : Nat) (h : (o.dst, o.op, ev L x, H[i]?, cs[off]?, wantL ops L o, d.blt n) = (some d, Op.load t x, some (.pointer (some ⟨b, off, none⟩)), some (cellsE b T cs), some v, some true, true)) (k : Pre n ((d, v) :: L) (St w0 D H) (wpL P ops Q rest)) : Pre n L (St w0 D H) (wpL P ops Q (o :: rest)) := by
  simp only [Prod.mk.injEq] at h
  exact l_q h.1 (q_loadC h.2.1 hg h.2.2.1 (fun _ x => x.at i h.2.2.2.1) h.2.2.2.2.1) h.2.2.2.2.2.1 h.2.2.2.2.2.2 k
section any
variable {l : List Oper} {listed : Array Bool} {k : Nat} {T : List Nat}
theorem Aq (i : Nat) (hi : (l[i]?, o.dst, wantL l.toArray L o, d.blt n) = (some o, some d, some true, true)) (hXS : ∀ w, X w → S w) (hq : QOp P n L S o v)
    (h : Pre n ((d, v) :: L) X (wpAnyH P .any l.toArray Q S k (listed.setIfInBounds i true))) (hB : Blind Q := by repeat (first | exact blind_body | refine blind_then ?_ | refine blind_block ?_)) (hs : Region.noSelect l.toArray = true := by kernel_rfl) (hf : Region.free .any l.toArray listed i = true := by kernel_rfl) (hr : (Region.ready .any l.toArray listed).contains i = true := by kernel_rfl) : Pre n L X (wpAnyH P .any l.toArray Q S (k + 1) listed) := by
  simp only [Prod.mk.injEq] at hi
  exact a_q hB i hi.1 hs hf hr hXS hi.2.1 hq hi.2.2.1 hi.2.2.2 h
end any
end short
end Go.Sep
namespace Go.Proofs.YtloldofjddbjoaaGreat
open Tryz
abbrev U77 := @underlying77
abbrev Z3 := @sizeOf3
abbrev G3 := @isAgg3
abbrev Z77 := @sizeOf77
abbrev U75 := @underlying75
abbrev Z5 := @sizeOf5
abbrev U23 := @underlying23
abbrev G77 := @isAgg77
abbrev U9 := @underlying9
abbrev U5 := @underlying5
abbrev U154 := @underlying154
abbrev Z56 := @sizeOf56
abbrev G56 := @isAgg56
abbrev Z41 := @sizeOf41
abbrev G41 := @isAgg41
abbrev U22 := @underlying22
abbrev U277 := @underlying277
abbrev U255 := @underlying255
abbrev Z277 := @sizeOf277
abbrev G277 := @isAgg277
abbrev U49 := @underlying49
abbrev Z79 := @sizeOf79
abbrev U132 := @underlying132
abbrev U133 := @underlying133
abbrev Z154 := @sizeOf154
abbrev U3 := @underlying3
abbrev U257 := @underlying257
abbrev U89 := @underlying89
abbrev Z253 := @sizeOf253
abbrev G253 := @isAgg253
abbrev U253 := @underlying253
abbrev Z259 := @sizeOf259
abbrev U259 := @underlying259
abbrev Z255 := @sizeOf255
abbrev G255 := @isAgg255
abbrev Z254 := @sizeOf254
abbrev U254 := @underlying254
abbrev U379 := @underlying379
abbrev U135 := @underlying135
abbrev Z49 := @sizeOf49
abbrev G49 := @isAgg49
abbrev Z22 := @sizeOf22
abbrev G22 := @isAgg22
abbrev Z132 := @sizeOf132
abbrev Z133 := @sizeOf133
abbrev G135 := @isAgg135
abbrev Z135 := @sizeOf135
abbrev U284 := @underlying284
abbrev Z4 := @sizeOf4
abbrev G4 := @isAgg4
abbrev U198 := @underlying198
abbrev U41 := @underlying41
abbrev G5 := @isAgg5
abbrev U324 := @underlying324
abbrev U79 := @underlying79
abbrev G154 := @isAgg154
abbrev U365 := @underlying365
abbrev U363 := @underlying363
abbrev U161 := @underlying161
abbrev Z159 := @sizeOf159
abbrev U159 := @underlying159
abbrev U158 := @underlying158
abbrev U241 := @underlying241
abbrev U200 := @underlying200
abbrev Z241 := @sizeOf241
abbrev U275 := @underlying275
abbrev Z200 := @sizeOf200
abbrev G200 := @isAgg200
abbrev U91 := @underlying91
abbrev Z86 := @sizeOf86
abbrev G86 := @isAgg86
abbrev Z88 := @sizeOf88
abbrev U88 := @underlying88
abbrev U226 := @underlying226
abbrev U229 := @underlying229
abbrev Z177 := @sizeOf177
abbrev Z44 := @sizeOf44
abbrev G44 := @isAgg44
abbrev U249 := @underlying249
abbrev U125 := @underlying125
abbrev Z122 := @sizeOf122
abbrev G122 := @isAgg122
abbrev U122 := @underlying122
abbrev Z123 := @sizeOf123
abbrev G123 := @isAgg123
abbrev U123 := @underlying123
abbrev Z40 := @sizeOf40
abbrev G40 := @isAgg40
abbrev U40 := @underlying40
abbrev U100 := @underlying100
abbrev Z34 := @sizeOf34
abbrev Z58 := @sizeOf58
abbrev U34 := @underlying34
abbrev Z71 := @sizeOf71
abbrev Z43 := @sizeOf43
abbrev G43 := @isAgg43
abbrev U43 := @underlying43
abbrev Z9 := @sizeOf9
abbrev G9 := @isAgg9
abbrev Z47 := @sizeOf47
abbrev G47 := @isAgg47
abbrev U171 := @underlying171
abbrev Z169 := @sizeOf169
abbrev U169 := @underlying169
abbrev Z98 := @sizeOf98
abbrev G98 := @isAgg98
abbrev U98 := @underlying98
abbrev Z102 := @sizeOf102
abbrev G102 := @isAgg102
abbrev U103 := @underlying103
abbrev U108 := @underlying108
abbrev Z97 := @sizeOf97
abbrev G97 := @isAgg97
abbrev U25 := @underlying25
abbrev U27 := @underlying27
abbrev Z25 := @sizeOf25
abbrev G25 := @isAgg25
abbrev U202 := @underlying202
abbrev U58 := @underlying58
abbrev U60 := @underlying60
abbrev U71 := @underlying71
abbrev U36 := @underlying36
abbrev Z60 := @sizeOf60
end Go.Proofs.YtloldofjddbjoaaGreat
set_option maxHeartbeats 8000000
set_option maxRecDepth 100000
namespace Go.Proofs.YtloldofjddbjoaaGreat
open Go.Sep Go.RowKit Tryz
theorem info3 : Tryz.prog.info? 3 = some Tryz.t3 := by kernel_rfl
theorem byt3 : Tryz.t3.bytes = 8 := rfl
theorem info4 : Tryz.prog.info? 4 = some Tryz.t4 := by kernel_rfl
theorem byt4 : Tryz.t4.bytes = 1 := rfl
theorem info5 : Tryz.prog.info? 5 = some Tryz.t5 := by kernel_rfl
theorem byt5 : Tryz.t5.bytes = 1 := rfl
theorem info40 : Tryz.prog.info? 40 = some Tryz.t40 := by kernel_rfl
theorem byt40 : Tryz.t40.bytes = 24 := rfl
theorem info43 : Tryz.prog.info? 43 = some Tryz.t43 := by kernel_rfl
theorem byt43 : Tryz.t43.bytes = 48 := rfl
theorem info60 : Tryz.prog.info? 60 = some Tryz.t60 := by kernel_rfl
theorem byt60 : Tryz.t60.bytes = 120 := rfl
theorem info71 : Tryz.prog.info? 71 = some Tryz.t71 := by kernel_rfl
theorem byt71 : Tryz.t71.bytes = 64 := rfl
theorem info77 : Tryz.prog.info? 77 = some Tryz.t77 := by kernel_rfl
theorem byt77 : Tryz.t77.bytes = 16 := rfl
theorem info79 : Tryz.prog.info? 79 = some Tryz.t79 := by kernel_rfl
theorem byt79 : Tryz.t79.bytes = 40 := rfl
theorem info102 : Tryz.prog.info? 102 = some Tryz.t102 := by kernel_rfl
theorem byt102 : Tryz.t102.bytes = 16 := rfl
theorem info154 : Tryz.prog.info? 154 = some Tryz.t154 := by kernel_rfl
theorem byt154 : Tryz.t154.bytes = 64 := rfl
theorem info202 : Tryz.prog.info? 202 = some Tryz.t202 := by kernel_rfl
theorem byt202 : Tryz.t202.bytes = 192 := rfl
theorem info203 : Tryz.prog.info? 203 = some Tryz.t203 := by kernel_rfl
theorem byt203 : Tryz.t203.bytes = 8 := rfl
theorem info241 : Tryz.prog.info? 241 = some Tryz.t241 := by kernel_rfl
theorem byt241 : Tryz.t241.bytes = 16 := rfl
theorem info259 : Tryz.prog.info? 259 = some Tryz.t259 := by kernel_rfl
theorem byt259 : Tryz.t259.bytes = 144 := rfl
theorem info277 : Tryz.prog.info? 277 = some Tryz.t277 := by kernel_rfl
theorem byt277 : Tryz.t277.bytes = 24 := rfl
theorem info279 : Tryz.prog.info? 279 = some Tryz.t279 := by kernel_rfl
theorem byt279 : Tryz.t279.bytes = 256 := rfl
theorem info284 : Tryz.prog.info? 284 = some Tryz.t284 := by kernel_rfl
theorem byt284 : Tryz.t284.bytes = 8 := rfl
end Go.Proofs.YtloldofjddbjoaaGreat
namespace Go.Sep
open Go.RowKit Go.Proofs.YtloldofjddbjoaaGreat
section
variable {P : Program} {n : Nat} {L : Env} {X : World → Prop} {fn : Func} {R : Ending → World → Prop}
def ResOK (P : Program) (L : Env) (X : World → Prop) : ResultVar → Value → Prop
  | .tmp t, v => look L t = some v
  | .cell x t, v => ∃ p, look L x = some (.pointer (some p)) ∧ ∀ w, X w → (loadVar t p).run P w = .ok v w
theorem resOne_run {a : Act} {w : World} (k : Know n L a) (x : X w) : ∀ {r : ResultVar} {v : Value}, ResOK P L X r v → (resOne a.tmps r).run P w = .ok v w
  | .tmp t, v, h => by
    have := k.get t v h
    simp [resOne, Array.getD_eq_getD_getElem?, this]
  | .cell y t, v, ⟨p, hp, hl⟩ => by
    have := k.get y _ hp
    simp [resOne, Array.getD_eq_getD_getElem?, this, asAddr, hl w x]
theorem results_eq (fn : Func) (tmps : Array Value) : results fn tmps = (do let vs ← fn.results.mapM (resOne tmps); pure (if h : vs.size = 1 then vs[0] else .tuple vs)) := rfl
theorem r_res1 {r : ResultVar} {v : Value} (hr : fn.results = #[r]) (h : ResOK P L X r v) (hR : ∀ w, X w → R (.returned v) w) : Pre n L X (bodyPost P fn R .ret) := fun a w k x =>
  ⟨k.defers, v, by rw [results_eq, hr]; simp [resOne_run k x h], hR w x⟩
theorem r_res2 {r r' : ResultVar} {u v : Value} (hr : fn.results = #[r, r']) (h1 : ResOK P L X r u) (h2 : ResOK P L X r' v) (hR : ∀ w, X w → R (.returned (.tuple #[u, v])) w) : Pre n L X (bodyPost P fn R .ret) := fun a w k x =>
  ⟨k.defers, _, by rw [results_eq, hr]; simp [resOne_run k x h1, resOne_run k x h2], hR w x⟩
theorem res_cellA {x b sz : Nat} {t T : TypeId} {cs : List Value} (hx : look L x = some (.pointer (some ⟨b, 0, none⟩))) (hg : ∀ w, (isAgg t).run P w = .ok true w) (hz : ∀ w, (sizeOf t).run P w = .ok sz w) (hr : ∀ w, X w → (cellsE b T cs).at w) (hl : cs.length = sz) : ResOK P L X (.cell x t) (.agg cs.toArray) :=
  ⟨_, hx, fun w hX => by
    have := run_loadCells (P := P) b 0 w sz 0 cs #[] hl (fun j v hj => by rw [Nat.zero_add, Nat.zero_add]; exact cellsE_cell (hr w hX) hj)
    simp [loadVar, hg, hz, loadCells, this]⟩
end
section
variable {P : Program} {n : Nat} {L : Env} {X : World → Prop} {o : Oper} {Q : Exit → Act → World → Prop} {K : Act → World → Prop}
variable {w0 : World} {D : List Nat} {H : List Ent} {α : Type} {E : Enc α} {l : List α} {v : Value}
theorem run_firstN {w : World} {m : Nat} (h : RdV w v E l) (hm : m ≤ l.length) : (Builtin.firstCells E.sz m v).run P w = .ok (E.flat (l.take m)).toArray w := by
  obtain ⟨a, c, rfl, hc, h⟩ := h
  have h' : RdV w (.slice a (l.take m).length c) E (l.take m) := ⟨a, c, rfl, by rw [List.length_take]; omega, by
    rcases h with rfl | ⟨b, off, rfl, h⟩
    · exact .inl (by simp)
    · refine .inr ⟨b, off, rfl, fun k u hk => h k u ?_⟩
      rw [← E.flat_take, List.getElem?_take] at hk
      split at hk
      · exact hk
      · cases hk⟩
  have := run_first (P := P) h'
  rw [List.length_take, Nat.min_eq_left hm] at this
  cases a <;> exact this
theorem run_copy {t tx e ty : TypeId} {x : Value} {b off dn dc : Nat} {T : TypeId} {cs : List Value} {w : World} (ht : P.underlying t = some (.slice e)) (hz : ∀ w, (sizeOf e).run P w = .ok E.sz w) (h : St w0 D (cellsE b T cs :: H) w) (hx : RdV w x E l) (hfit : off + min l.length dn * E.sz ≤ cs.length) :
    ∃ w', (Builtin.copy_ #[t, tx] ty #[.slice (some ⟨b, off, none⟩) dn dc, x]).run P w = .ok (.int .i64 (min l.length dn : Nat)) w' ∧ St w0 D (cellsE b T (splice cs off (E.flat (l.take (min l.length dn)))) :: H) w' := by
  have hf := run_firstN (P := P) hx (Nat.min_le_left l.length dn)
  have hl := run_lenOf (P := P) hx
  have hlen : (E.flat (l.take (min l.length dn))).length = min l.length dn * E.sz := by rw [E.flat_len, List.length_take, Nat.min_eq_left (Nat.min_le_left ..)]
  obtain ⟨w', hr, h'⟩ := run_storeCs (P := P) (off := off) (E.flat (l.take (min l.length dn))) _ 0 h (by omega) (fun u hu => E.flat_one _ u hu)
  refine ⟨w', ?_, by simpa using h'⟩
  have hmin : Nat.min l.length dn = min l.length dn := rfl
  simp [Builtin.copy_, run_und ht, hl, hz, hmin, hf, hr, goInt]
theorem e_copy {t tx e : TypeId} {x y : Operand} {xv : Value} {b off dn dc : Nat} {T : TypeId} {cs : List Value} {d : Nat} (ho : o.op = .call ⟨.builtin .copy, #[y, x], #[t, tx]⟩) (hd : o.dst = some d) (hnn : d.blt n = true) (ht : P.underlying t = some (.slice e)) (hz : ∀ w, (sizeOf e).run P w = .ok E.sz w)
    (hy : ev L y = some (.slice (some ⟨b, off, none⟩) dn dc)) (hxv : ev L x = some xv) (hx : ∀ w, St w0 D (cellsE b T cs :: H) w → RdV w xv E l) (hfit : off + min l.length dn * E.sz ≤ cs.length)
    (h : Pre n ((d, .int .i64 (min l.length dn : Nat)) :: L) (St w0 D (cellsE b T (splice cs off (E.flat (l.take (min l.length dn)))) :: H)) K) : EOp P n L (St w0 D (cellsE b T cs :: H)) o Q K :=
  EOp.val (β := Unit) (fun _ => .int .i64 (min l.length dn : Nat)) (fun _ => True) (fun _ => St w0 D (cellsE b T (splice cs off (E.flat (l.take (min l.length dn)))) :: H)) hd hnn (fun a w kn hX => by
    obtain ⟨w', hr, h'⟩ := run_copy (P := P) (ty := o.type) (tx := tx) (dc := dc) ht hz hX (hx w hX) hfit
    exact ⟨(), w', by simp [execOp, ho, resolve, invoke, builtin, kn.eval hy, kn.eval hxv, hr], trivial, h'⟩) (fun _ _ => h)
theorem rd_part {w : World} {b off k c : Nat} {T : TypeId} {cs : List Value} (h : (cellsE b T cs).at w) (E : Enc α) (l : List α) (hk : l.length = k) (hc : k ≤ c) (hf : (cs.drop off).take (k * E.sz) = E.flat l) : RdV w (.slice (some ⟨b, off, none⟩) k c) E l := by
  subst hk
  refine ⟨_, c, rfl, hc, .inr ⟨b, off, rfl, fun j u hj => cellsE_cell h ?_⟩⟩
  rw [← hf, List.getElem?_take] at hj
  split at hj
  · rwa [List.getElem?_drop] at hj
  · cases hj
theorem q_b2s {l : List Int} {r t e : TypeId} {x : Operand} (ho : o.op = .convert r t x) (hs : P.underlying r = some (.slice e)) (he : P.underlying e = some (.int .u8)) (ht : P.underlying t = some .string) (hx : ev L x = some v) (hr : ∀ w, X w → RdV w v (encI .u8) l) : QOp P n L X o (.string (strOfNums l)) := fun a w hk hX => by
  obtain ⟨ad, c, rfl, hc, h⟩ := hr w hX
  have hrun : (convert r t (.slice ad l.length c)).run P w = .ok (.string (strOfNums l)) w := by
    rcases h with rfl | ⟨b, off, rfl, h⟩
    · cases ad with
      | none => exact run_convert_bytes_nil w r e hs he 0 c t ht
      | some p => simp [convert, run_und hs, run_und ht, run_und he, Conv.bytesToString, loadCells, loadCellsFrom, strOfNums]; rfl
    · exact run_convert_bytes_arg w r e hs he b off l.length c l rfl (fun i hi => by
        refine h i _ ?_
        have := (encI .u8).flat_get l i 0 (l.getD i 0) (.int .u8 (l.getD i 0)) (by simp [List.getD_eq_getElem?_getD, hi]) rfl
        have e1 : (encI .u8).sz = 1 := rfl
        rw [e1, Nat.mul_one, Nat.add_zero] at this
        exact this) t ht
  have := QOp.mk (P := P) (n := n) (L := L) (X := fun w' => w' = w) (o := o) (v := .string (strOfNums l)) (fun a => convert r t (a.eval x)) (fun a => by simp [execOp, ho]) (fun a w' hk hw => by subst hw; rw [hk.eval hx]; exact hrun)
  exact this a w hk rfl
theorem run_eqAgg {w : World} {d : Nat} {t : TypeId} {ks : List Sc} {xs ys : List Value} {b : Bool} (hf : flat P d t = some ks) (hk : P.keyTypeAt d t = true) (hd : d.ble 10000 = true) (hc : P.cellsOf t = ks.length)
    (ha : (match P.underlying t with | some (.struct _) | some (.array _ _) => true | _ => false) = true) (hx : Kinds ks xs) (hy : Kinds ks ys) (hb : xs = ys ↔ b = true) : (Op.equal t (.agg xs.toArray) (.agg ys.toArray)).run P w = .ok b w := by
  obtain ⟨r, h1, h2⟩ := run_equal_flat (P := P) (w := w) (n := d) (t := t) (ks := ks) (xs := xs.toArray) (ys := ys.toArray) hf hk (Nat.le_of_ble_eq_true hd) hc ha hx hy
  have hr : r = b := by
    rw [Bool.eq_iff_iff, h2, ← hb]
    exact ⟨fun h => by simpa using h, fun h => by rw [h]⟩
  rw [← hr]; exact h1
theorem q_eqAgg {t u : TypeId} {x y : Operand} {d : Nat} {ks : List Sc} {xs ys : List Value} (b : Bool) (hf : flat P d t = some ks) (hk : P.keyTypeAt d t = true) (hd : d.ble 10000 = true) (hc : P.cellsOf t = ks.length)
    (ha : (match P.underlying t with | some (.struct _) | some (.array _ _) => true | _ => false) = true) (hm : P.eqGuardType P.depth t = false) (ho : o.op = .binOp .eql t x y u) (hx : ev L x = some (.agg xs.toArray)) (hy : ev L y = some (.agg ys.toArray)) (kx : Kinds ks xs) (ky : Kinds ks ys) (hb : xs = ys ↔ b = true) : QOp P n L X o (.bool b) :=
  q_bin ho hx hy (fun w _ => run_both (run_eqGuard_agg (w := w) .eql t x y _ _ hm) (bin_eq w rfl (run_eqAgg hf hk hd hc ha kx ky hb)))
theorem q_neAgg {t u : TypeId} {x y : Operand} {d : Nat} {ks : List Sc} {xs ys : List Value} (b : Bool) (hf : flat P d t = some ks) (hk : P.keyTypeAt d t = true) (hd : d.ble 10000 = true) (hc : P.cellsOf t = ks.length)
    (ha : (match P.underlying t with | some (.struct _) | some (.array _ _) => true | _ => false) = true) (hm : P.eqGuardType P.depth t = false) (ho : o.op = .binOp .neq t x y u) (hx : ev L x = some (.agg xs.toArray)) (hy : ev L y = some (.agg ys.toArray)) (kx : Kinds ks xs) (ky : Kinds ks ys) (hb : xs = ys ↔ b = true) : QOp P n L X o (.bool (!b)) :=
  q_bin ho hx hy (fun w _ => run_both (run_eqGuard_agg (w := w) .neq t x y _ _ hm) (bin_ne w rfl (run_eqAgg hf hk hd hc ha kx ky hb)))
end
end Go.Sep
