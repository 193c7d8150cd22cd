/- Slices: length, places, parts, loads; append. Over any program. -/
import Derived.Test.YtpfbagkjhchojaaS5
set_option linter.unusedVariables false
set_option linter.unusedSimpArgs false
namespace Go.Sep
open Go.RowKit
section
variable {P : Program} {n : Nat} {L : Env} {X : World → Prop} {o : Oper} {Q : Exit → Act → World → Prop} {K : Act → World → Prop} {α : Type} {E : Enc α} {l : List α} {v : Value}

theorem q_lenV {x : Operand} {t e : TypeId} (ho : o.op = .call ⟨.builtin .len, #[x], #[t]⟩) (ht : P.underlying t = some (.slice e)) (hx : ev L x = some v) (hr : ∀ w, X w → RdV w v E l) : QOp P n L X o (.int .i64 (l.length : Int)) := fun a w hk hX => by
  obtain ⟨ad, c, rfl, _⟩ := hr w hX
  exact q_len (X := X) ho ht hx a w hk hX
theorem q_indexV {t e : TypeId} {x i : Operand} {k : IntKind} {p : Int} (j : Nat) (ho : o.op = .indexAddr t x i) (ht : P.underlying t = some (.slice e)) (hz : ∀ w, (sizeOf e).run P w = .ok E.sz w)
    (hx : ev L x = some v) (hr : ∀ w, X w → RdV w v E l) (hi : ev L i = some (.int k p)) (hp : p = (j : Int)) (hj : j < l.length) : QOp P n L X o (.pointer (some ⟨blk v, offs v + j * E.sz, none⟩)) := fun a w hk hX => by
  obtain ⟨ad, c, rfl, _, h⟩ := hr w hX
  rcases h with rfl | ⟨b, off, rfl, h⟩
  · simp at hj
  · exact q_indexAddr (X := X) j ho ht hz hx hi hp hj a w hk hX
theorem rd_open {w : World} (hr : RdV w v E l) (hn : 0 < l.length) : ∃ b off c, v = .slice (some ⟨b, off, none⟩) l.length c := by
  obtain ⟨ad, c, rfl, _, h⟩ := hr
  rcases h with rfl | ⟨b, off, rfl, h⟩
  · simp at hn
  · exact ⟨b, off, c, rfl⟩
theorem rd_cell {w : World} (hr : RdV w v E l) {j k : Nat} {a : α} {u : Value} (ha : l[j]? = some a) (hv : (E.f a)[k]? = some u) : w.cell? ⟨blk v, offs v + j * E.sz + k, none⟩ = some u := by
  obtain ⟨ad, c, rfl, _, h⟩ := hr
  rcases h with rfl | ⟨b, off, rfl, h⟩
  · simp at ha
  · have := h _ _ (E.flat_get l j k a u ha hv)
    rwa [← Nat.add_assoc] at this
theorem q_loadV {t : TypeId} {x : Operand} {u : Value} {off : Nat} (j k : Nat) {a : α} (ho : o.op = .load t x) (hg : ∀ w, (isAgg t).run P w = .ok false w) (hx : ev L x = some (.pointer (some ⟨blk v, off, none⟩))) (hoff : off = offs v + j * E.sz + k)
    (hr : ∀ w, X w → RdV w v E l) (ha : l[j]? = some a) (hv : (E.f a)[k]? = some u) : QOp P n L X o u := by
  subst hoff
  exact q_load ho hg hx (fun w hX => rd_cell (hr w hX) ha hv)
theorem q_loadVPart {t : TypeId} {x : Operand} {off sz : Nat} (j k : Nat) {a : α} (ho : o.op = .load t x) (hg : ∀ w, (isAgg t).run P w = .ok true w) (hz : ∀ w, (sizeOf t).run P w = .ok sz w) (hx : ev L x = some (.pointer (some ⟨blk v, off, none⟩))) (hoff : off = offs v + j * E.sz + k)
    (hr : ∀ w, X w → RdV w v E l) (ha : l[j]? = some a) (hk : k + sz ≤ E.sz) : QOp P n L X o (.agg (((E.f a).drop k).take sz).toArray) := by
  subst hoff
  refine q_loadAgg ho hg hz hx (by rw [List.length_take, List.length_drop, E.len]; omega) (fun w hX i u hu => ?_)
  have h1 : (E.f a)[k + i]? = some u := by
    rw [List.getElem?_take] at hu
    split at hu
    · rwa [List.getElem?_drop] at hu
    · cases hu
  rw [Nat.add_assoc]
  exact rd_cell (hr w hX) ha h1
theorem q_loadVAgg {t : TypeId} {x : Operand} {off : Nat} (j : Nat) {a : α} (ho : o.op = .load t x) (hg : ∀ w, (isAgg t).run P w = .ok true w) (hz : ∀ w, (sizeOf t).run P w = .ok E.sz w) (hx : ev L x = some (.pointer (some ⟨blk v, off, none⟩))) (hoff : off = offs v + j * E.sz)
    (hr : ∀ w, X w → RdV w v E l) (ha : l[j]? = some a) : QOp P n L X o (.agg (E.f a).toArray) := by
  have := q_loadVPart (P := P) (n := n) (E := E) (v := v) (l := l) j 0 ho hg hz hx (by rw [Nat.add_zero]; exact hoff) hr ha (by omega)
  rw [List.drop_zero, List.take_of_length_le (by rw [E.len]; exact Nat.le_refl _)] at this
  exact this
/-! ### Loads out of a block that is known whole -/
theorem q_loadC {t T : TypeId} {x : Operand} {b off : Nat} {cs : List Value} {u : Value} (ho : o.op = .load t x) (hg : ∀ w, (isAgg t).run P w = .ok false w) (hx : ev L x = some (.pointer (some ⟨b, off, none⟩))) (hr : ∀ w, X w → (cellsE b T cs).at w) (hv : cs[off]? = some u) : QOp P n L X o u :=
  q_load ho hg hx (fun w hX => cellsE_cell (hr w hX) hv)
theorem q_loadCAgg {t T : TypeId} {x : Operand} {b off sz : Nat} {cs : List Value} (vs : List Value) (ho : o.op = .load t x) (hg : ∀ w, (isAgg t).run P w = .ok true w) (hz : ∀ w, (sizeOf t).run P w = .ok sz w) (hx : ev L x = some (.pointer (some ⟨b, off, none⟩))) (hr : ∀ w, X w → (cellsE b T cs).at w)
    (hv : (cs.drop off).take sz = vs) (hl : vs.length = sz) : QOp P n L X o (.agg vs.toArray) :=
  q_loadAgg ho hg hz hx hl (fun w hX i u hu => cellsE_cell (hr w hX) (by
    subst hv
    rw [List.getElem?_take] at hu
    split at hu
    · rwa [List.getElem?_drop] at hu
    · cases hu))

/-! ### Parts of slices -/
def vsl : Value → Nat → Nat → Nat → Value
  | .slice a _ c, sz, lo, hi => .slice (if c = lo then a else a.map (·.add (lo * sz))) (hi - lo) (c - lo)
  | v, _, _, _ => v
theorem vsl_rd {w : World} (h : RdV w v E l) {lo hi : Nat} (h1 : lo ≤ hi) (h2 : hi ≤ l.length) : RdV w (vsl v E.sz lo hi) E ((l.take hi).drop lo) := by
  obtain ⟨a, c, rfl, hc, h⟩ := h
  have hlen : ((l.take hi).drop lo).length = hi - lo := by rw [List.length_drop, List.length_take]; omega
  refine ⟨(if c = lo then a else a.map (·.add (lo * E.sz))), c - lo, by rw [vsl, hlen], by omega, ?_⟩
  by_cases hd : hi = lo
  · exact .inl (List.eq_nil_of_length_eq_zero (by omega))
  · rcases h with rfl | ⟨b, off, rfl, h⟩
    · simp at h2; omega
    · refine .inr ⟨b, off + lo * E.sz, ?_, fun k u hu => ?_⟩
      · rw [if_neg (by omega)]; simp [add_none]
      · rw [← E.flat_drop, ← E.flat_take, List.getElem?_drop, List.getElem?_take] at hu
        split at hu
        · have := h _ _ hu; rwa [← Nat.add_assoc] at this
        · cases hu
theorem q_sliceV {t e : TypeId} {x lo hi : Operand} {k k' : IntKind} {zl zh : Int} (i j : Nat) (ho : o.op = .slice t x (some lo) (some hi) none) (ht : P.underlying t = some (.slice e)) (hz : ∀ w, (sizeOf e).run P w = .ok E.sz w)
    (hx : ev L x = some v) (hr : ∀ w, X w → RdV w v E l) (hlo : ev L lo = some (.int k zl)) (hhi : ev L hi = some (.int k' zh)) (el : zl = (i : Int)) (eh : zh = (j : Int)) (h1 : i ≤ j) (h2 : j ≤ l.length) :
    QOp P n L X o (vsl v E.sz i j) := fun a w hk hX => by
  obtain ⟨ad, c, rfl, hc, _⟩ := hr w hX
  subst el; subst eh
  have hjc : j ≤ c := by omega
  have := QOp.mk (P := P) (n := n) (L := L) (X := X) (o := o) (v := vsl (.slice ad l.length c) E.sz i j) (fun a => Instr.sliceAt t (a.eval x) (some (a.eval lo)) (some (a.eval hi)) none) (fun a => by simp [execOp, ho]) (fun a w hk _ => by
    rw [hk.eval hx, hk.eval hlo, hk.eval hhi]
    simp only [Instr.sliceAt, Instr.slice, Instr.sliceBounds, Sem.run_bind, run_und ht, Result.andThen_ok, Sem.run_pure, run_bound (P := P) w rfl hjc, run_bound (P := P) w rfl h1, hz, vsl])
  exact this a w hk hX
theorem q_sliceVL {t e : TypeId} {x lo : Operand} {k : IntKind} {zl : Int} (i : Nat) (ho : o.op = .slice t x (some lo) none none) (ht : P.underlying t = some (.slice e)) (hz : ∀ w, (sizeOf e).run P w = .ok E.sz w)
    (hx : ev L x = some v) (hr : ∀ w, X w → RdV w v E l) (hlo : ev L lo = some (.int k zl)) (el : zl = (i : Int)) (h1 : i ≤ l.length) :
    QOp P n L X o (vsl v E.sz i l.length) := fun a w hk hX => by
  obtain ⟨ad, c, rfl, hc, _⟩ := hr w hX
  subst el
  have := QOp.mk (P := P) (n := n) (L := L) (X := X) (o := o) (v := vsl (.slice ad l.length c) E.sz i l.length) (fun a => Instr.sliceAt t (a.eval x) (some (a.eval lo)) none none) (fun a => by simp [execOp, ho]) (fun a w hk _ => by
    rw [hk.eval hx, hk.eval hlo]
    simp only [Instr.sliceAt, Instr.slice, Instr.sliceBounds, Sem.run_bind, run_und ht, Result.andThen_ok, Sem.run_pure, run_bound (P := P) w rfl h1, hz, vsl])
  exact this a w hk hX
theorem q_sliceVH {t e : TypeId} {x hi : Operand} {k' : IntKind} {zh : Int} (j : Nat) (ho : o.op = .slice t x none (some hi) none) (ht : P.underlying t = some (.slice e)) (hz : ∀ w, (sizeOf e).run P w = .ok E.sz w)
    (hx : ev L x = some v) (hr : ∀ w, X w → RdV w v E l) (hhi : ev L hi = some (.int k' zh)) (eh : zh = (j : Int)) (h2 : j ≤ l.length) :
    QOp P n L X o (vsl v E.sz 0 j) := fun a w hk hX => by
  obtain ⟨ad, c, rfl, hc, _⟩ := hr w hX
  subst eh
  have hjc : j ≤ c := by omega
  have := QOp.mk (P := P) (n := n) (L := L) (X := X) (o := o) (v := vsl (.slice ad l.length c) E.sz 0 j) (fun a => Instr.sliceAt t (a.eval x) none (some (a.eval hi)) none) (fun a => by simp [execOp, ho]) (fun a w hk _ => by
    rw [hk.eval hx, hk.eval hhi]
    simp only [Instr.sliceAt, Instr.slice, Instr.sliceBounds, Sem.run_bind, run_und ht, Result.andThen_ok, Sem.run_pure, run_bound (P := P) w rfl hjc, hz, vsl])
  exact this a w hk hX
/-- x[:0:0]: nothing, with no room. -/
theorem q_slice00 {t e : TypeId} {x hi mx : Operand} {k k' : IntKind} (ho : o.op = .slice t x none (some hi) (some mx)) (ht : P.underlying t = some (.slice e)) (hz : ∀ w, (sizeOf e).run P w = .ok E.sz w)
    (hx : ev L x = some v) (hr : ∀ w, X w → RdV w v E l) (hhi : ev L hi = some (.int k 0)) (hmx : ev L mx = some (.int k' 0)) :
    QOp P n L X o (.slice (match v with | .slice a _ _ => a | _ => none) 0 0) := fun a w hk hX => by
  obtain ⟨ad, c, rfl, hc, _⟩ := hr w hX
  have hb0 : ∀ (k : IntKind) (y : Nat) (cd : BoundsCode) (w : World), (Instr.sliceBound (.int k 0) y cd).run P w = .ok 0 w := fun k y cd w => by simp [Instr.sliceBound, asIntOf]
  have := QOp.mk (P := P) (n := n) (L := L) (X := X) (o := o) (v := .slice ad 0 0) (fun a => Instr.sliceAt t (a.eval x) none (some (a.eval hi)) (some (a.eval mx))) (fun a => by simp [execOp, ho]) (fun a w hk _ => by
    rw [hk.eval hx, hk.eval hhi, hk.eval hmx]
    simp only [Instr.sliceAt, Instr.slice, Instr.sliceBounds, Sem.run_bind, run_und ht, Result.andThen_ok, Sem.run_pure, hb0, hz]
    simp)
  exact this a w hk hX

/-! ## append -/
theorem run_lenOf {w : World} (h : RdV w v E l) : (Builtin.lenOf v).run P w = .ok l.length w := by
  obtain ⟨a, c, rfl, _⟩ := h; rfl
theorem run_first {w : World} (h : RdV w v E l) : (Builtin.firstCells E.sz l.length v).run P w = .ok (E.flat l).toArray w := by
  obtain ⟨a, c, rfl, _, h⟩ := h
  rcases h with rfl | ⟨b, off, rfl, h⟩
  · cases a <;> simp [Builtin.firstCells, loadCells, loadCellsFrom, Enc.flat_nil]
  · simp only [Builtin.firstCells, loadCells]
    have := run_loadCells (P := P) b off w (l.length * E.sz) 0 (E.flat l) #[] (E.flat_len l) (fun j u hu => by rw [Nat.zero_add]; exact h j u hu)
    simpa using this
theorem RdV.drew {w : World} (h : RdV w v E l) : RdV w.drew v E l := h.congr (fun _ => rfl)
variable {w0 : World} {D : List Nat} {H : List Ent}
/-- A slice with no room owns nothing. -/
theorem St.row0 {w : World} (e : TypeId) (E : Enc α) (a : Option Addr) (h : St w0 D H w) : St w0 D (rowE (.slice a 0 0) e E [] :: H) w :=
  h.add (by cases a <;> simp [rowE, ownB]) (.inl ⟨a, rfl, rfl⟩)
/-- A literal's block is a slice's own. -/
theorem St.rowLit {w : World} {b m : Nat} {e : TypeId} {cs : List Value} (E : Enc α) (l : List α) (hl : l.length = m) (hcs : cs = E.flat l) (h : St w0 D (cellsE b e cs :: H) w) : St w0 D (rowE (.slice (some ⟨b, 0, none⟩) m m) e E l :: H) w := by
  subst hl; subst hcs
  by_cases h0 : l = []
  · subst h0
    exact h.drop.row0 e E _
  · have hp : 0 < l.length := List.length_pos_iff.2 h0
    have h1 : St w0 D (cellsE b e ([] ++ E.flat l ++ []) :: H) w := by simpa using h
    exact row_close (cap := l.length) h1 hp (Nat.le_refl _) (by simp)
theorem run_append {t tx e e' : TypeId} {i : TypeInfo} {z x : Value} {m : List α} {ty : TypeId} {w : World} (ht : P.underlying t = some (.slice e)) (htx : P.underlying tx = some (.slice e')) (hi : P.info? e = some i) (hs : i.size = E.sz) (hz : i.zero = some z) (hzc : z.cells.size = E.sz)
    (h : St w0 D (rowE v e E l :: H) w) (hx : RdV w x E m) (hb : (l.length + m.length) * i.bytes ≤ 140737488355328) (hn : l.length + m.length ≤ 9223372036854775807) :
    ∃ v' w', (Builtin.append_ #[t, tx] ty #[v, x]).run P w = .ok v' w' ∧ St w0 D (rowE v' e E (l ++ m) :: H) w' := by
  have hrd : RdV w v E l := rowE_rd (h.at 0 rfl)
  have hvl := hrd
  obtain ⟨a, c, rfl, hc, _⟩ := hvl
  have hsz : ∀ w, (sizeOf e).run P w = .ok E.sz w := fun w => by simp [sizeOf, typeInfo, hi, hs]
  have hti : ∀ w, (typeInfo e).run P w = .ok i w := fun w => by simp [typeInfo, hi]
  have hzv : ∀ w, (zeroValue e).run P w = .ok z w := fun w => by simp [zeroValue, typeInfo, hi, hz]
  have hlen := run_lenOf (P := P) hx
  by_cases hroom : l.length + m.length ≤ c
  · -- there is room
    have hrun : (Builtin.append_ #[t, tx] ty #[.slice a l.length c, x]).run P w = (Sem.run P (match a with | some a => storeCells (a.add (l.length * E.sz)) (E.flat m) | none => pure () : Sem Unit) w).andThen (fun _ w' => .ok (.slice a (l.length + m.length) c) w') := by
      have hf := run_first (P := P) hx
      cases a <;> simp [Builtin.append_, run_und ht, run_und htx, hsz, hlen, hroom, hf]
    by_cases hm : m = []
    · subst hm
      refine ⟨.slice a l.length c, w, ?_, by simpa using h⟩
      rw [hrun]
      cases a <;> simp [Enc.flat_nil, storeCells]
    · have hmp : 0 < m.length := List.length_pos_iff.2 hm
      have hat : Row (.slice a l.length c) e E l ((ownB (.slice a l.length c)).bind (w.heap[·]?)) := h.at 0 rfl
      rcases hat with ⟨a', he, rfl⟩ | ⟨b, cap, pre, post, he, hcp, ho, hlc, hpost⟩
      · cases he; simp at hroom; exact absurd hroom hm
      · cases he
        have hown : ownB (.slice (some ⟨b, pre.length, none⟩) l.length c) = some b := by simp [ownB]; omega
        have h1 : St w0 D (cellsE b e (pre ++ E.flat l ++ post) :: H) w := h.head hown.symm (fun _ => by rw [hown] at ho; exact ho)
        have hl1 := E.flat_len l
        have hl2 := E.flat_len m
        have hmul : (l.length + m.length) * E.sz ≤ c * E.sz := Nat.mul_le_mul_right _ hroom
        have hsub : (c - l.length) * E.sz = c * E.sz - l.length * E.sz := Nat.sub_mul ..
        rw [Nat.add_mul] at hmul
        have hfit : pre.length + l.length * E.sz + 0 + (E.flat m).length ≤ (pre ++ E.flat l ++ post).length := by
          simp only [List.length_append]; omega
        obtain ⟨w', hr, h'⟩ := run_storeCs (P := P) (off := pre.length + l.length * E.sz) (E.flat m) _ 0 h1 hfit (fun u hu => E.flat_one m u hu)
        refine ⟨.slice (some ⟨b, pre.length, none⟩) (l.length + m.length) c, w', ?_, ?_⟩
        · rw [hrun]
          simp only [add_none, hr, Result.andThen_ok]
        · rw [splice_eq _ _ _ (by simpa using hfit)] at h'
          have t1 : (pre ++ E.flat l ++ post).take (pre.length + l.length * E.sz + 0) = pre ++ E.flat l := by
            rw [Nat.add_zero, ← hl1, ← List.length_append, List.take_left]
          rw [t1] at h'
          have e2 : pre ++ E.flat l ++ E.flat m = pre ++ E.flat (l ++ m) := by rw [E.flat_append, List.append_assoc]
          rw [e2] at h'
          have := row_close (cap := c) h' (by omega) (by simpa using hroom) (by
            simp only [List.length_drop, List.length_append, Nat.add_zero]
            have hs2 : (c - (l.length + m.length)) * E.sz = c * E.sz - (l.length * E.sz + m.length * E.sz) := by rw [Nat.sub_mul, Nat.add_mul]
            rw [hs2]
            omega)
          simpa using this
  · -- a new block
    have hgt : c < l.length + m.length := by omega
    have h64 : ¬ (9223372036854775807 < ((l.length : Int) + (m.length : Int))) := by omega
    have hfits := growslice_fits hgt hb
    have h48 : ¬ (281474976710656 < Builtin.nextslicecap (l.length + m.length) c * i.bytes) := by omega
    have hf1 := run_first (P := P) hrd.drew
    have hf2 := run_first (P := P) hx.drew
    have hrun : (Builtin.append_ #[t, tx] ty #[.slice a l.length c, x]).run P w = .ok (.slice (some ⟨w.heap.size, 0, none⟩) (l.length + m.length) (grownCap w (l.length + m.length) c e))
        (w.drew.alloc (.cells ((E.flat l).toArray ++ (E.flat m).toArray ++ Builtin.zeroCells z.cells (grownCap w (l.length + m.length) c e - (l.length + m.length))) e)) := by
      simp [Builtin.append_, run_und ht, run_und htx, hsz, hti, hzv, hlen, hroom, h64, h48, Question.forced, hf1, hf2, newRow, grownCap, ← Array.append_assoc]
    refine ⟨_, _, hrun, ?_⟩
    have hge := grownCap_ge w (l.length + m.length) c e
    have hb2 : ownB (.slice (some ⟨w.heap.size, 0, none⟩) (l.length + m.length) (grownCap w (l.length + m.length) c e)) = some w.heap.size := by simp [ownB]; omega
    have h1 := (h.drop.drew).alloc (o := .cells ((E.flat l).toArray ++ (E.flat m).toArray ++ Builtin.zeroCells z.cells (grownCap w (l.length + m.length) c e - (l.length + m.length))) e)
      (φ := Row (.slice (some ⟨w.heap.size, 0, none⟩) (l.length + m.length) (grownCap w (l.length + m.length) c e)) e E (l ++ m)) (.inr ⟨w.heap.size, grownCap w (l.length + m.length) c e, [], (Builtin.zeroCells z.cells (grownCap w (l.length + m.length) c e - (l.length + m.length))).toList, by simp, by omega, by
        congr 2
        apply Array.toList_inj.1
        simp [E.flat_append], by simp; omega, by
        rw [Array.length_toList, size_zeroCells, hzc, List.length_append]⟩)
    show St w0 D (⟨ownB _, _⟩ :: H) _
    rw [hb2]
    exact h1
theorem e_append {t tx e e' : TypeId} {i : TypeInfo} {z xv : Value} {s x : Operand} {m : List α} {d : Nat} (ho : o.op = .call ⟨.builtin .append, #[s, x], #[t, tx]⟩) (hd : o.dst = some d) (hnn : d.blt n = true) (ht : P.underlying t = some (.slice e)) (htx : P.underlying tx = some (.slice e')) (hi : P.info? e = some i) (hs : i.size = E.sz) (hz : i.zero = some z) (hzc : z.cells.size = E.sz)
    (hsv : ev L s = some v) (hxv : ev L x = some xv) (hx : ∀ w, St w0 D (rowE v e E l :: H) w → RdV w xv E m) (hb : (l.length + m.length) * i.bytes ≤ 140737488355328) (hn : l.length + m.length ≤ 9223372036854775807)
    (h : ∀ v', Pre n ((d, v') :: L) (St w0 D (rowE v' e E (l ++ m) :: H)) K) : EOp P n L (St w0 D (rowE v e E l :: H)) o Q K :=
  EOp.val (β := Value) (fun v => v) (fun _ => True) (fun v' => St w0 D (rowE v' e E (l ++ m) :: H)) hd hnn (fun a w kn hX => by
    obtain ⟨v', w', hr, h'⟩ := run_append (P := P) (ty := o.type) ht htx hi hs hz hzc hX (hx w hX) hb hn
    exact ⟨v', w', by simp [execOp, ho, resolve, invoke, builtin, kn.eval hsv, kn.eval hxv, hr], trivial, h'⟩) (fun v' _ => h v')

/-! ## Another entry in front -/
variable {F : Act → World → Prop} {a b c d e f g h i : Ent}
theorem pull1 (k : Pre n L (St w0 D (b :: a :: H)) F) : Pre n L (St w0 D (a :: b :: H)) F := k.world _ (fun w s => s.perm (.swap b a H))
theorem pull2 (k : Pre n L (St w0 D (c :: a :: b :: H)) F) : Pre n L (St w0 D (a :: b :: c :: H)) F := k.world _ (fun w s => s.perm (.trans (.cons a (.swap c b H)) (.swap c a (b :: H))))
theorem pull3 (k : Pre n L (St w0 D (d :: a :: b :: c :: H)) F) : Pre n L (St w0 D (a :: b :: c :: d :: H)) F := k.world _ (fun w s => s.perm (.trans (.cons a (.cons b (.swap d c H))) (.trans (.cons a (.swap d b (c :: H))) (.swap d a (b :: c :: H)))))
theorem pull4 (k : Pre n L (St w0 D (e :: a :: b :: c :: d :: H)) F) : Pre n L (St w0 D (a :: b :: c :: d :: e :: H)) F := k.world _ (fun w s => s.perm (List.perm_middle (l₁ := [a, b, c, d]) (l₂ := H)))
theorem pull5 (k : Pre n L (St w0 D (f :: a :: b :: c :: d :: e :: H)) F) : Pre n L (St w0 D (a :: b :: c :: d :: e :: f :: H)) F := k.world _ (fun w s => s.perm (List.perm_middle (l₁ := [a, b, c, d, e]) (l₂ := H)))
theorem pull6 (k : Pre n L (St w0 D (g :: a :: b :: c :: d :: e :: f :: H)) F) : Pre n L (St w0 D (a :: b :: c :: d :: e :: f :: g :: H)) F := k.world _ (fun w s => s.perm (List.perm_middle (l₁ := [a, b, c, d, e, f]) (l₂ := H)))
theorem drop0 (k : Pre n L (St w0 D H) F) : Pre n L (St w0 D (a :: H)) F := k.world _ (fun w s => s.drop)
theorem row_sl {w : World} {e : TypeId} (h : (rowE v e E l).at w) : ∃ a c, v = .slice a l.length c := by
  obtain ⟨a, c, h, _⟩ := rowE_rd h; exact ⟨a, c, h⟩
theorem rd_sl {w : World} (h : RdV w v E l) : ∃ a c, v = .slice a l.length c := by
  obtain ⟨a, c, h, _⟩ := h; exact ⟨a, c, h⟩
theorem rd_none {w : World} {n c : Nat} (h : RdV w (.slice none n c) E l) : l = [] := by
  obtain ⟨a, c', e, _, h⟩ := h
  cases e
  rcases h with h | ⟨b, off, e, _⟩
  · exact h
  · cases e
theorem cells_eq {F : Act → World → Prop} {b : Nat} {t : TypeId} {cs cs' : List Value} (he : cs = cs') (k : Pre n L (St w0 D (cellsE b t cs' :: H)) F) : Pre n L (St w0 D (cellsE b t cs :: H)) F := he ▸ k
theorem row_eq {F : Act → World → Prop} {v : Value} {t : TypeId} {E : Enc α} {l l' : List α} (he : l = l') (k : Pre n L (St w0 D (rowE v t E l' :: H)) F) : Pre n L (St w0 D (rowE v t E l :: H)) F := he ▸ k
/-- A slice with no room: owned. -/
theorem row0 {F : Act → World → Prop} (e : TypeId) (E : Enc α) (a : Option Addr) (k : Pre n L (St w0 D (rowE (.slice a 0 0) e E [] :: H)) F) : Pre n L (St w0 D H) F := k.world _ (fun w s => s.row0 e E a)
/-- A literal's row: owned. -/
theorem rowLit {F : Act → World → Prop} {b m : Nat} {e : TypeId} {cs : List Value} (E : Enc α) (l : List α) (hl : l.length = m) (hcs : cs = E.flat l) (k : Pre n L (St w0 D (rowE (.slice (some ⟨b, 0, none⟩) m m) e E l :: H)) F) : Pre n L (St w0 D (cellsE b e cs :: H)) F := k.world _ (fun w s => s.rowLit E l hl hcs)
/-- Other entries: given by name. -/
theorem toH (H' : List Ent) (hp : H.Perm H') (k : Pre n L (St w0 D H') F) : Pre n L (St w0 D H) F := k.world _ (fun w s => s.perm hp)
end
end Go.Sep
