
/- Flat values (structs and arrays of integers, bools and strings): equality. Over any program. -/
import Derived.Test.YtpfbagkjhchojaaOpen
import Derived.DeepKeys5
namespace Go.Proofs.Ytpfbagkjhchojaa
open Go.RowKit

/-- A cell as a literal. -/
def litOf : Value → Lit
  | .int k n => .int k n
  | .bool b => .bool b
  | .string s => .string s.data.toList
  | _ => .bool false

theorem Sc.lit_inj {k : Sc} {u v : Value} (hu : k.ok u) (hv : k.ok v) (h : litOf u = litOf v) : u = v := by
  cases k with
  | i k => obtain ⟨z, rfl, _⟩ := hu; obtain ⟨y, rfl, _⟩ := hv; simp only [litOf, Lit.int.injEq] at h; rw [h.2]
  | b => obtain ⟨z, rfl⟩ := hu; obtain ⟨y, rfl⟩ := hv; simp only [litOf, Lit.bool.injEq] at h; rw [h]
  | s =>
    obtain ⟨z, rfl, _⟩ := hu
    obtain ⟨y, rfl, _⟩ := hv
    simp only [litOf, Lit.string.injEq] at h
    obtain ⟨⟨z⟩⟩ := z
    obtain ⟨⟨y⟩⟩ := y
    simp only at h
    rw [h]

theorem Kinds.lits_inj {ks : List Sc} {xs ys : List Value} (hx : Kinds ks xs) (hy : Kinds ks ys) (h : xs.map litOf = ys.map litOf) : xs = ys := by
  apply List.ext_getElem?
  intro i
  by_cases hi : i < ks.length
  · have h1 : i < xs.length := by rw [hx.1]; exact hi
    have h2 : i < ys.length := by rw [hy.1]; exact hi
    rw [List.getElem?_eq_getElem h1, List.getElem?_eq_getElem h2]
    congr 1
    refine Sc.lit_inj (hx.2 i ks[i] _ (List.getElem?_eq_getElem hi) (List.getElem?_eq_getElem h1)) (hy.2 i ks[i] _ (List.getElem?_eq_getElem hi) (List.getElem?_eq_getElem h2)) ?_
    have := congrArg (fun l => l[i]?) h
    simpa [List.getElem?_eq_getElem h1, List.getElem?_eq_getElem h2] using this
  · rw [List.getElem?_eq_none (by rw [hx.1]; omega), List.getElem?_eq_none (by rw [hy.1]; omega)]

theorem Kinds.part {a b : List Sc} {cs : List Value} (h : Kinds (a ++ b) cs) : Kinds a (cs.take a.length) ∧ Kinds b (cs.drop a.length) := by
  obtain ⟨hl, hk⟩ := h
  rw [List.length_append] at hl
  refine ⟨⟨by rw [List.length_take]; omega, fun j k v h1 h2 => ?_⟩, ⟨by rw [List.length_drop]; omega, fun j k v h1 h2 => ?_⟩⟩
  · have hj := (List.getElem?_eq_some_iff.1 h1).1
    rw [List.getElem?_take, if_pos hj] at h2
    exact hk j k v (by rw [List.getElem?_append_left hj]; exact h1) h2
  · rw [List.getElem?_drop] at h2
    exact hk (a.length + j) k v (by rw [List.getElem?_append_right (by omega)]; rw [show a.length + j - a.length = j from by omega]; exact h1) h2

section
variable {P : Program}

theorem one_of {k : Sc} {cs : List Value} (h : Kinds [k] cs) : ∃ v, cs = [v] ∧ k.ok v := by
  match cs, h.1 with
  | [v], _ => exact ⟨v, rfl, h.2 0 k v rfl rfl⟩

theorem flatFields_pre (fl : TypeId → Option (List Sc)) (fs : List Field) : ∀ (acc l : List Sc), flatFields P fl fs acc = some l → ∃ b, l = acc ++ b := by
  induction fs with
  | nil => intro acc l h; simp only [flatFields, Option.some.injEq] at h; exact ⟨[], by simp [h]⟩
  | cons g gs ih =>
    intro acc l h
    simp only [flatFields] at h
    cases hg : fl g.type with
    | none => rw [hg] at h; simp at h
    | some l2 =>
      rw [hg] at h
      simp only at h
      by_cases hc2 : g.offset = acc.length ∧ P.cellsOf g.type = l2.length
      · rw [if_pos hc2] at h
        obtain ⟨b, hb⟩ := ih (acc ++ l2) l h
        exact ⟨l2 ++ b, by rw [hb]; simp [List.append_assoc]⟩
      · rw [if_neg hc2] at h; simp at h

theorem fields_lits (n D : Nat) (ih : ∀ (t : TypeId) (l : List Sc), flat P n t = some l → P.keyTypeAt n t = true → ∀ cs, Kinds l cs → P.keyLits D t cs = some (cs.map litOf))
    (cs : List Value) (fs : List Field) : ∀ (acc l : List Sc), flatFields P (flat P n) fs acc = some l → (∀ f ∈ fs, P.keyTypeAt n f.type = true) → Kinds l (cs.take l.length) →
    ∃ lss : List (List Lit), fs.mapM (fun f => P.keyLits D f.type ((cs.drop f.offset).take (P.cellsOf f.type))) = some lss ∧ lss.flatten = ((cs.take l.length).drop acc.length).map litOf ∧ acc.length ≤ l.length := by
  induction fs with
  | nil =>
    intro acc l h _ _
    simp only [flatFields, Option.some.injEq] at h
    subst h
    exact ⟨[], rfl, by simp, Nat.le_refl _⟩
  | cons f fs IH =>
    intro acc l h hk hcs
    simp only [flatFields] at h
    cases hfl : flat P n f.type with
    | none => rw [hfl] at h; simp at h
    | some l1 =>
      rw [hfl] at h
      simp only at h
      by_cases hc : f.offset = acc.length ∧ P.cellsOf f.type = l1.length
      · rw [if_pos hc] at h
        obtain ⟨lss, h1, h2, h3⟩ := IH (acc ++ l1) l h (fun g hg => hk g (by simp [hg])) hcs
        rw [List.length_append] at h2 h3
        have hsub : Kinds l1 ((cs.drop acc.length).take l1.length) := by
          obtain ⟨b, rfl⟩ := flatFields_pre (P := P) (flat P n) fs (acc ++ l1) l h
          have := (hcs.part).1
          have := (this.part).2
          rw [List.take_take, List.drop_take, List.length_append] at this
          rw [show min (acc.length + l1.length) ((acc ++ l1 ++ b).length) - acc.length = l1.length from by simp] at this
          exact this
        have hl := ih f.type l1 hfl (hk f (by simp)) _ hsub
        refine ⟨(((cs.drop acc.length).take l1.length).map litOf) :: lss, ?_, ?_, by omega⟩
        · rw [List.mapM_cons, hc.1, hc.2, hl, h1]; rfl
        · rw [List.flatten_cons, h2, ← List.map_append]
          congr 1
          rw [show (cs.take l.length).drop (acc.length + l1.length) = (((cs.take l.length).drop acc.length).drop l1.length) from by rw [List.drop_drop]]
          rw [show (cs.drop acc.length).take l1.length = ((cs.take l.length).drop acc.length).take l1.length from by rw [List.drop_take, List.take_take]; congr 1; omega]
          exact List.take_append_drop _ _
      · rw [if_neg hc] at h; simp at h

theorem items_lits {D : Nat} {e : TypeId} {l1 : List Sc} (hce : P.cellsOf e = l1.length) (ih : ∀ cs, Kinds l1 cs → P.keyLits D e cs = some (cs.map litOf)) (m : Nat) : ∀ (k : Nat) (cs : List Value), Kinds (List.replicate m l1).flatten (cs.drop (k * l1.length)) →
    ∃ lss : List (List Lit), (List.range' k m).mapM (fun i => P.keyLits D e ((cs.drop (i * P.cellsOf e)).take (P.cellsOf e))) = some lss ∧ lss.flatten = (cs.drop (k * l1.length)).map litOf := by
  induction m with
  | zero =>
    intro k cs h
    have : cs.drop (k * l1.length) = [] := List.eq_nil_of_length_eq_zero (by simpa using h.1)
    exact ⟨[], rfl, by rw [this]; rfl⟩
  | succ m IH =>
    intro k cs h
    rw [List.replicate_succ, List.flatten_cons] at h
    obtain ⟨h1, h2⟩ := h.part
    rw [List.drop_drop, show k * l1.length + l1.length = (k + 1) * l1.length from by rw [Nat.add_mul]; omega] at h2
    obtain ⟨lss, e1, e2⟩ := IH (k + 1) cs h2
    have hl := ih _ h1
    refine ⟨((cs.drop (k * l1.length)).take l1.length).map litOf :: lss, ?_, ?_⟩
    · rw [List.range'_succ, List.mapM_cons, hce, hl]
      rw [hce] at e1
      rw [e1]; rfl
    · rw [List.flatten_cons, e2, ← List.map_append]
      congr 1
      rw [show (k + 1) * l1.length = k * l1.length + l1.length from by rw [Nat.add_mul]; omega, ← List.drop_drop]
      exact List.take_append_drop _ _

theorem flat_lits (n : Nat) : ∀ (t : TypeId) (l : List Sc), flat P n t = some l → P.keyTypeAt n t = true → ∀ cs, Kinds l cs → P.keyLits n t cs = some (cs.map litOf) := by
  induction n with
  | zero => intro t l h; simp [flat] at h
  | succ n ih =>
    intro t l h hk cs hcs
    unfold flat at h
    unfold Program.keyLits
    unfold Program.keyTypeAt at hk
    split at h
    · rename_i hu
      simp only [Option.some.injEq] at h
      subst h
      obtain ⟨v, rfl, b, rfl⟩ := one_of hcs
      rw [hu]; rfl
    · rename_i k hu
      simp only [Option.some.injEq] at h
      subst h
      obtain ⟨v, rfl, z, rfl, hz⟩ := one_of hcs
      rw [hu]
      simp [hz, litOf]
    · rename_i hu
      simp only [Option.some.injEq] at h
      subst h
      obtain ⟨v, rfl, z, rfl, hz⟩ := one_of hcs
      rw [hu]
      simp [hz, litOf]
    · rename_i fs hu
      rw [hu] at hk
      simp only at hk
      cases hff : flatFields P (flat P n) fs.toList [] with
      | none => rw [hff] at h; simp at h
      | some l1 =>
        rw [hff] at h
        simp only at h
        by_cases hc : P.cellsOf t = l1.length
        · rw [if_pos hc] at h
          simp only [Option.some.injEq] at h
          subst h
          simp only [Bool.and_eq_true, Array.all_eq_true', bne_iff_ne, ne_eq] at hk
          obtain ⟨⟨hk1, _⟩, _⟩ := hk
          have hk2 : ∀ f ∈ fs.toList, P.keyTypeAt n f.type = true := fun f hf => (hk1 f (by simpa using hf)).2
          have hcs' : cs.take l1.length = cs := List.take_of_length_le (by rw [hcs.1]; exact Nat.le_refl _)
          obtain ⟨lss, h1, h2, _⟩ := fields_lits n n ih cs fs.toList [] l1 hff hk2 (by rw [hcs']; exact hcs)
          have hnames : fs.all (fun x => x.name != "_") = true := by
            rw [Array.all_eq_true']
            intro f hf
            simpa using (hk1 f hf).1
          rw [hu]
          simp only [hc, hcs.1, hnames, and_self, if_true, h1, Option.map_some]
          rw [h2, hcs']
          rfl
        · rw [if_neg hc] at h; simp at h
    · rename_i m e hu
      rw [hu] at hk
      simp only at hk
      cases hfe : flat P n e with
      | none => rw [hfe] at h; simp at h
      | some l1 =>
        rw [hfe] at h
        simp only at h
        by_cases hc : P.cellsOf e = l1.length ∧ P.cellsOf t = m * l1.length ∧ 0 < l1.length
        · rw [if_pos hc] at h
          simp only [Option.some.injEq] at h
          subst h
          obtain ⟨lss, h1, h2⟩ := items_lits hc.1 (ih e l1 hfe hk) m 0 cs (by simpa using hcs)
          rw [hu]
          have hlen : cs.length = P.cellsOf t := by rw [hcs.1, hc.2.1]; simp
          simp only [hlen, if_true]
          rw [List.range_eq_range', h1]
          simp only [Option.map_some, h2]
          simp
        · rw [if_neg hc] at h; simp at h
    · simp at h

/-- Two flat structs or arrays are equal just if their cells are. -/
theorem run_equal_flat {w : World} {n : Nat} {t : TypeId} {ks : List Sc} {xs ys : Array Value} (hf : flat P n t = some ks) (hk : P.keyTypeAt n t = true) (hd : n ≤ 10000) (hc : P.cellsOf t = ks.length)
    (ha : (match P.underlying t with | some (.struct _) | some (.array _ _) => true | _ => false) = true) (hx : Kinds ks xs.toList) (hy : Kinds ks ys.toList) :
    ∃ r : Bool, (Op.equalIn 10000 t (.agg xs) (.agg ys)).run P w = .ok r w ∧ (r = true ↔ xs = ys) := by
  have H := run_equalIn_deep (P := P) (10000 - n) n t hk
  rw [show 10000 - n + n = 10000 from by omega] at H
  have fx : ∀ zs : Array Value, Kinds ks zs.toList → (Value.agg zs).formed P t = true := by
    intro zs hz
    have hs : zs.size = P.cellsOf t := by rw [hc, ← hz.1]; simp
    unfold Value.formed
    split at ha
    · rename_i hu; simp [hu, hs]
    · rename_i hu; simp [hu, hs]
    · simp at ha
  obtain ⟨r, h1, h2⟩ := H w n n (.agg xs) (.agg ys) _ _ (fx xs hx) (fx ys hy) (flat_lits n t ks hf hk _ hx) (flat_lits n t ks hf hk _ hy)
  refine ⟨r, h1, h2.trans ⟨fun h => ?_, fun h => by rw [h]⟩⟩
  have := hx.lits_inj hy h
  exact Array.ext' this
end

/-- What an aggregate variable of a flat type holds, read off its block. -/
def otherRow (P : Program) (t : TypeId) (w : World) (a : Addr) : Result Value := (loadVar t a).run P w
def rowOf (P : Program) (t : TypeId) (size : Nat) (w : World) (a : Addr) : Result Value :=
  match w.heap[a.block]? with
  | some (.cells cs _ _) => if a.off = 0 ∧ a.spot = none ∧ cs.size = size then .ok (.agg cs) w else otherRow P t w a
  | _ => otherRow P t w a
theorem run_loadVar_flat {P : Program} {t : TypeId} {d : TypeDesc} {size : Nat} (hu : P.underlying t = some d) (hd : (match d with | .struct _ | .array _ _ => true | _ => false) = true) (hi : (P.info? t).map (·.size) = some size) (w : World) (a : Addr) :
    (loadVar t a).run P w = rowOf P t size w a := by
  unfold rowOf
  split
  · rename_i cs e fr h
    split
    · rename_i hc
      obtain ⟨b, off, spot⟩ := a
      obtain ⟨h1, h2, h3⟩ := hc
      simp only at h1 h2
      subst h1 h2
      exact run_loadVar_row w b e t cs fr d h hu hd (by rw [h3]; exact hi)
    · rfl
  · rfl

/-- The load of a whole flat variable, as one step. -/
def loadOf (P : Program) (t : TypeId) (size : Nat) (w : World) : Value → Result Next
  | .pointer (some a) => (rowOf P t size w a).andThen fun v w' => .ok (.value v) w'
  | v => (Instr.loadAt t v).run P w |>.andThen fun v w' => .ok (.value v) w'
theorem exec_load_flat {P : Program} {t : TypeId} {d : TypeDesc} {size : Nat} (hu : P.underlying t = some d) (hd : (match d with | .struct _ | .array _ _ => true | _ => false) = true) (hi : (P.info? t).map (·.size) = some size) (w : World)
    (ρ : Operand → Value) (o : Oper) (x : Operand) (ho : o.op = .load t x) : (execOp ρ o).run P w = loadOf P t size w (ρ x) := by
  have e : (execOp ρ o).run P w = ((Instr.loadAt t (ρ x)).run P w).andThen fun v w' => .ok (.value v) w' := by
    simp only [execOp, ho, Sem.run_bind, Sem.run_pure]
  rw [e]
  generalize ρ x = v
  unfold loadOf
  split
  · simp only [Instr.loadAt, Instr.sureAddr, Sem.run_bind, Sem.run_pure, Result.andThen_ok, run_loadVar_flat hu hd hi]
  · rfl
end Go.Proofs.Ytpfbagkjhchojaa
