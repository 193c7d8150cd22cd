/- In place: copy and append within one block, clear, append of zeros, a call that tells whether two slices overlap. Over any program. -/
import Derived.Test.YtpfbagkjhchojaaS8
import Derived.Lib.Overlaps
import Derived.Laws.Externs
set_option linter.unusedVariables false
set_option linter.unusedSimpArgs false
namespace Go.Sep
open Go.RowKit
section
variable {P : Program} {n : Nat} {L : Env} {X : World → Prop} {o : Oper} {Q : Exit → Act → World → Prop} {K : Act → World → Prop}
variable {w0 : World} {D : List Nat} {H : List Ent} {α : Type} {E : Enc α} {l : List α} {v : Value}

/-! ## copy, whose source may be longer, or lie in the block itself -/
theorem run_firstK {w : World} {sa : Option Addr} {sc : Nat} {m : List α} (h : RdV w (.slice sa m.length sc) E m) (sl' sc' : Nat) : (Builtin.firstCells E.sz m.length (.slice sa sl' sc')).run P w = .ok (E.flat m).toArray w := by
  have := run_first (P := P) h
  cases sa <;> exact this
theorem e_copyW {t tx e : TypeId} {x y : Operand} {sa : Option Addr} {sl sc sc' b off dl dc : Nat} {T : TypeId} {cs : List Value} {m : List α} {d : Nat} (k : Nat) (ho : o.op = .call ⟨.builtin .copy, #[y, x], #[t, tx]⟩) (hd : o.dst = some d) (hnn : d.blt n = true) (ht : P.underlying t = some (.slice e)) (hz : ∀ w, (sizeOf e).run P w = .ok E.sz w)
    (hy : ev L y = some (.slice (some ⟨b, off, none⟩) dl dc)) (hxv : ev L x = some (.slice sa sl sc)) (hm : min sl dl = k) (hx : ∀ w, St w0 D (cellsE b T cs :: H) w → RdV w (.slice sa k sc') E m) (hfit : off + k * E.sz ≤ cs.length)
    (h : Pre n ((d, .int .i64 (k : Nat)) :: L) (St w0 D (cellsE b T (splice cs off (E.flat m)) :: H)) K) : EOp P n L (St w0 D (cellsE b T cs :: H)) o Q K :=
  EOp.val (β := Unit) (fun _ => .int .i64 (k : Nat)) (fun _ => True) (fun _ => St w0 D (cellsE b T (splice cs off (E.flat m)) :: H)) hd hnn (fun a w kn hX => by
    have hx1 := hx w hX
    have hk : m.length = k := by obtain ⟨a', c', e', _⟩ := hx1; cases e'; rfl
    subst hk
    have hf := run_firstK (P := P) hx1 sl sc
    have hlen := E.flat_len m
    obtain ⟨w', hr, h'⟩ := run_storeCs (P := P) (off := off) (E.flat m) _ 0 hX (by omega) (fun u hu => E.flat_one _ u hu)
    have hmin : Nat.min sl dl = m.length := hm
    have hl : (Builtin.lenOf (.slice sa sl sc)).run P w = .ok sl w := rfl
    refine ⟨(), w', ?_, trivial, by simpa using h'⟩
    simp [execOp, ho, resolve, invoke, builtin, kn.eval hy, kn.eval hxv, Builtin.copy_, run_und ht, hl, hz, hmin, hf, hr, goInt]) (fun _ _ => h)

theorem RdV.keepE {w : World} (h : RdV w0 v E l) (s : St w0 D H w) (hD : blk v ∉ D ∨ l = []) : RdV w v E l :=
  h.congr (fun hl => s.keep.block _ (h.lt hl) (hD.resolve_right hl))
/-! ## A row, opened; a block, shut -/
theorem row_letters {F : Act → World → Prop} {e : TypeId} (hl : 0 < l.length) (k : ∀ b cap pre post, v = .slice (some ⟨b, pre.length, none⟩) l.length cap → l.length ≤ cap → post.length = (cap - l.length) * E.sz → Pre n L (St w0 D (cellsE b e (pre ++ E.flat l ++ post) :: H)) F) : Pre n L (St w0 D (rowE v e E l :: H)) F := fun a w kn hX => by
  obtain ⟨b, cap, pre, post, hv, hc, hp, h⟩ := row_open hX hl
  exact k b cap pre post hv hc hp a w kn h
theorem row_shut {F : Act → World → Prop} {b cap len : Nat} {e : TypeId} (l : List α) (pre post : List Value) {cs : List Value} (hcs : cs = pre ++ E.flat l ++ post) (hlen : l.length = len) (hc : 0 < cap) (hl : len ≤ cap) (hp : post.length = (cap - len) * E.sz) (k : Pre n L (St w0 D (rowE (.slice (some ⟨b, pre.length, none⟩) len cap) e E l :: H)) F) : Pre n L (St w0 D (cellsE b e cs :: H)) F := k.world _ (fun w s => by
  subst hcs; subst hlen
  exact row_close s hc hl hp)
/-- A row without its first ones. -/
theorem row_tail {F : Act → World → Prop} {e : TypeId} (i : Nat) (hi : i ≤ l.length) (k : Pre n L (St w0 D (rowE (vsl v E.sz i l.length) e E (l.drop i) :: H)) F) : Pre n L (St w0 D (rowE v e E l :: H)) F := k.world _ (fun w s => by
  have hat : Row v e E l ((ownB v).bind (w.heap[·]?)) := s.at 0 rfl
  rcases hat with ⟨a', rfl, rfl⟩ | ⟨b, cap, pre, post, rfl, hcp, ho, hlc, hpost⟩
  · have h0 : i = 0 := by simpa using hi
    subst h0
    exact s
  · have hown : ownB (.slice (some ⟨b, pre.length, none⟩) l.length cap) = some b := by simp [ownB]; omega
    by_cases hc : cap = i
    · have e1 : l.drop i = [] := List.drop_eq_nil_of_le (by omega)
      have e2 : vsl (.slice (some ⟨b, pre.length, none⟩) l.length cap) E.sz i l.length = .slice (some ⟨b, pre.length, none⟩) 0 0 := by
        have h1 : l.length - i = 0 := by omega
        have h2 : cap - i = 0 := by omega
        simp only [vsl, if_pos hc, h1, h2]
      rw [e1, e2]
      exact s.drop.row0 e E _
    · have h1 : St w0 D (cellsE b e (pre ++ E.flat l ++ post) :: H) w := s.head hown.symm (fun _ => by rw [hown] at ho; exact ho)
      have hl : (l.drop i).length = l.length - i := List.length_drop
      have hp : (pre ++ E.flat (l.take i)).length = pre.length + i * E.sz := by rw [List.length_append, E.flat_len, List.length_take]; congr 2; omega
      have e1 : pre ++ E.flat l ++ post = (pre ++ E.flat (l.take i)) ++ E.flat (l.drop i) ++ post := by
        rw [List.append_assoc pre (E.flat (l.take i)) (E.flat (l.drop i)), ← E.flat_append, List.take_append_drop]
      rw [e1] at h1
      have := row_close (cap := cap - i) h1 (by omega) (by omega) (by rw [hpost, hl]; congr 1; omega)
      rw [hp, hl] at this
      have e2 : vsl (.slice (some ⟨b, pre.length, none⟩) l.length cap) E.sz i l.length = .slice (some ⟨b, pre.length + i * E.sz, none⟩) (l.length - i) (cap - i) := by simp [vsl, hc, add_none]
      rw [e2]
      exact this)
theorem splice_part : ∀ (V M A C : List Value), M.length = V.length → splice (A ++ M ++ C) A.length V = A ++ V ++ C := fun V M A C h => by
  rw [splice_eq _ _ _ (by simp; omega)]
  congr 1
  · congr 1
    rw [List.append_assoc, List.take_left]
  · rw [← h, ← List.length_append, List.drop_left]
theorem splice_up (A B C : List Value) (t : Value) (h : C ≠ []) : splice (splice (A ++ B ++ C) (A.length + 1) B) A.length [t] = A ++ (t :: B) ++ C.drop 1 := by
  obtain ⟨x, R, hR⟩ : ∃ x R, B ++ C = x :: R := by
    cases hbc : B ++ C with
    | nil => exact absurd (List.append_eq_nil_iff.1 hbc).2 h
    | cons x R => exact ⟨x, R, rfl⟩
  have hc : 0 < C.length := List.length_pos_iff.2 h
  have hlen : R.length + 1 = B.length + C.length := by rw [← List.length_append, hR]; rfl
  have hd : R.drop B.length = C.drop 1 := by
    have : (B ++ C).drop (B.length + 1) = C.drop 1 := by rw [List.drop_length_add_append]
    rw [hR, List.drop_succ_cons] at this
    exact this
  have e1 : A ++ B ++ C = (A ++ [x]) ++ R.take B.length ++ R.drop B.length := by
    rw [List.append_assoc, hR, List.append_assoc, List.take_append_drop, List.append_assoc]; rfl
  have e2 := splice_part B (R.take B.length) (A ++ [x]) (R.drop B.length) (by rw [List.length_take]; omega)
  rw [List.length_append, List.length_singleton] at e2
  rw [e1, e2, List.append_assoc, splice_part [t] [x] A _ rfl, hd]
  simp
theorem splice_down (A Z C B : List Value) (t : Value) (h : Z.length = B.length + 1) : splice (splice (A ++ Z ++ C) A.length [t]) (A.length + 1) B = A ++ (t :: B) ++ C := by
  obtain ⟨x, R, rfl⟩ : ∃ x R, Z = x :: R := by
    cases Z with
    | nil => cases h
    | cons x R => exact ⟨x, R, rfl⟩
  have e1 : A ++ (x :: R) ++ C = A ++ [x] ++ (R ++ C) := by simp
  rw [e1, splice_part [t] [x] A _ rfl, ← List.append_assoc]
  have e2 := splice_part B R (A ++ [t]) C (by simpa using h)
  rw [List.length_append, List.length_singleton] at e2
  rw [e2]; simp

/-! ## append behind a part of an owned row -/
theorem run_appendIn {t tx e e' : TypeId} {x : Value} {m : List α} {ty : TypeId} {w : World} {i : Nat} (ht : P.underlying t = some (.slice e)) (htx : P.underlying tx = some (.slice e')) (hsz : ∀ w, (sizeOf e).run P w = .ok E.sz w)
    (h : St w0 D (rowE v e E l :: H) w) (hx : RdV w x E m) (hi : i + m.length ≤ l.length) :
    ∃ v' w', (Builtin.append_ #[t, tx] ty #[vsl v E.sz 0 i, x]).run P w = .ok v' w' ∧ vcap v' = vcap v ∧ St w0 D (rowE v' e E (l.take i ++ m) :: H) w' := by
  have hlen := run_lenOf (P := P) hx
  have hf := run_first (P := P) hx
  have hat : Row v e E l ((ownB v).bind (w.heap[·]?)) := h.at 0 rfl
  rcases hat with ⟨a', rfl, rfl⟩ | ⟨b, cap, pre, post, rfl, hcp, ho, hlc, hpost⟩
  · simp at hi
    obtain ⟨rfl, hm⟩ := hi
    subst hm
    simp only [List.length_nil, E.flat_nil] at hf
    refine ⟨.slice a' 0 0, w, ?_, rfl, by simpa using h⟩
    cases a' <;> simp [vsl, Builtin.append_, run_und ht, run_und htx, hsz, hlen, hf, Enc.flat_nil, storeCells]
  · have hown : ownB (.slice (some ⟨b, pre.length, none⟩) l.length cap) = some b := by simp [ownB]; omega
    have h1 : St w0 D (cellsE b e (pre ++ E.flat l ++ post) :: H) w := h.head hown.symm (fun _ => by rw [hown] at ho; exact ho)
    have hl1 := E.flat_len l
    have hl2 := E.flat_len m
    have hlen2 : (l.take i ++ m).length = i + m.length := by rw [List.length_append, List.length_take]; omega
    have hmul : (i + m.length) * E.sz ≤ l.length * E.sz := Nat.mul_le_mul_right _ hi
    have hmul2 : l.length * E.sz ≤ cap * E.sz := Nat.mul_le_mul_right _ hlc
    have hsub : (cap - l.length) * E.sz = cap * E.sz - l.length * E.sz := Nat.sub_mul ..
    have hsub2 : (cap - (i + m.length)) * E.sz = cap * E.sz - (i * E.sz + m.length * E.sz) := by rw [Nat.sub_mul, Nat.add_mul]
    rw [Nat.add_mul] at hmul
    have hfit : pre.length + i * E.sz + 0 + (E.flat m).length ≤ (pre ++ E.flat l ++ post).length := by
      simp only [List.length_append]; omega
    obtain ⟨w', hr, h'⟩ := run_storeCs (P := P) (off := pre.length + i * E.sz) (E.flat m) _ 0 h1 hfit (fun u hu => E.flat_one m u hu)
    have hroom : i + m.length ≤ cap := by omega
    have hc0 : ¬ (cap = 0) := by omega
    refine ⟨.slice (some ⟨b, pre.length, none⟩) (i + m.length) cap, w', ?_, rfl, ?_⟩
    · simp [vsl, hc0, Builtin.append_, run_und ht, run_und htx, hsz, hlen, hroom, hf, add_none, hr]
    · rw [splice_eq _ _ _ (by simpa using hfit)] at h'
      have t1 : (pre ++ E.flat l ++ post).take (pre.length + i * E.sz + 0) = pre ++ E.flat (l.take i) := by
        rw [Nat.add_zero, List.append_assoc, List.take_length_add_append, List.take_append_of_le_length (by omega), E.flat_take]
      rw [t1] at h'
      have e2 : pre ++ E.flat (l.take i) ++ E.flat m = pre ++ E.flat (l.take i ++ m) := by rw [E.flat_append, List.append_assoc]
      rw [e2] at h'
      have := row_close (cap := cap) h' hcp (by omega) (by
        rw [hlen2, hsub2]
        simp only [List.length_drop, List.length_append, Nat.add_zero]
        omega)
      rw [hlen2] at this
      exact this
theorem e_appendIn {t tx e e' : TypeId} {xv : Value} {s x : Operand} {m : List α} {d : Nat} (i : Nat) (ho : o.op = .call ⟨.builtin .append, #[s, x], #[t, tx]⟩) (hd : o.dst = some d) (hnn : d.blt n = true) (ht : P.underlying t = some (.slice e)) (htx : P.underlying tx = some (.slice e')) (hsz : ∀ w, (sizeOf e).run P w = .ok E.sz w)
    (hsv : ev L s = some (vsl v E.sz 0 i)) (hxv : ev L x = some xv) (hx : ∀ w, St w0 D (rowE v e E l :: H) w → RdV w xv E m) (hi : i + m.length ≤ l.length)
    (h : ∀ v', vcap v' = vcap v → Pre n ((d, v') :: L) (St w0 D (rowE v' e E (l.take i ++ m) :: H)) K) : EOp P n L (St w0 D (rowE v e E l :: H)) o Q K :=
  EOp.val (β := Value) (fun v => v) (fun v' => vcap v' = vcap v) (fun v' => St w0 D (rowE v' e E (l.take i ++ m) :: H)) hd hnn (fun a w kn hX => by
    obtain ⟨v', w', hr, hc, h'⟩ := run_appendIn (P := P) (ty := o.type) ht htx hsz hX (hx w hX) hi
    exact ⟨v', w', by simp [execOp, ho, resolve, invoke, builtin, kn.eval hsv, kn.eval hxv, hr], hc, h'⟩) (fun v' hv => h v' hv)

/-! ## Parts that reach beyond the length -/
theorem q_sliceC {t e : TypeId} {x lo hi : Operand} {k k' : IntKind} {zl zh : Int} (i j : Nat) (ho : o.op = .slice t x (some lo) (some hi) none) (ht : P.underlying t = some (.slice e)) (hz : ∀ w, (sizeOf e).run P w = .ok E.sz w)
    (hx : ev L x = some v) (hr : ∀ w, X w → RdV w v E l) (hlo : ev L lo = some (.int k zl)) (hhi : ev L hi = some (.int k' zh)) (el : zl = (i : Int)) (eh : zh = (j : Int)) (h1 : i ≤ j) (h2 : j ≤ vcap v) :
    QOp P n L X o (vsl v E.sz i j) := fun a w hk hX => by
  obtain ⟨ad, c, rfl, hc, _⟩ := hr w hX
  subst el; subst eh
  have hjc : j ≤ c := h2
  have := QOp.mk (P := P) (n := n) (L := L) (X := X) (o := o) (v := vsl (.slice ad l.length c) E.sz i j) (fun a => Instr.sliceAt t (a.eval x) (some (a.eval lo)) (some (a.eval hi)) none) (fun a => by simp [execOp, ho]) (fun a w hk _ => by
    rw [hk.eval hx, hk.eval hlo, hk.eval hhi]
    simp only [Instr.sliceAt, Instr.slice, Instr.sliceBounds, Sem.run_bind, run_und ht, Result.andThen_ok, Sem.run_pure, run_bound (P := P) w rfl hjc, run_bound (P := P) w rfl h1, hz, vsl])
  exact this a w hk hX
/-- x[i:j:m] -/
theorem q_slice3 {t e : TypeId} {x lo hi mx : Operand} {k k' k'' : IntKind} {zl zh zm : Int} (i j m : Nat) (ho : o.op = .slice t x (some lo) (some hi) (some mx)) (ht : P.underlying t = some (.slice e)) (hz : ∀ w, (sizeOf e).run P w = .ok E.sz w)
    (hx : ev L x = some v) (hr : ∀ w, X w → RdV w v E l) (hlo : ev L lo = some (.int k zl)) (hhi : ev L hi = some (.int k' zh)) (hmx : ev L mx = some (.int k'' zm)) (el : zl = (i : Int)) (eh : zh = (j : Int)) (em : zm = (m : Int)) (h1 : i ≤ j) (h2 : j ≤ m) (h3 : m ≤ l.length) :
    QOp P n L X o (.slice (if m = i then (match v with | .slice a _ _ => a | _ => none : Option Addr) else (match v with | .slice a _ _ => a | _ => none : Option Addr).map (fun q : Addr => q.add (i * E.sz))) (j - i) (m - i)) := fun a w hk hX => by
  obtain ⟨ad, c, rfl, hc, _⟩ := hr w hX
  subst el; subst eh; subst em
  have hmc : m ≤ c := by omega
  have := QOp.mk (P := P) (n := n) (L := L) (X := X) (o := o) (v := .slice (if m = i then ad else ad.map (·.add (i * E.sz))) (j - i) (m - i)) (fun a => Instr.sliceAt t (a.eval x) (some (a.eval lo)) (some (a.eval hi)) (some (a.eval mx))) (fun a => by simp [execOp, ho]) (fun a w hk _ => by
    rw [hk.eval hx, hk.eval hlo, hk.eval hhi, hk.eval hmx]
    simp only [Instr.sliceAt, Instr.slice, Instr.sliceBounds, Sem.run_bind, run_und ht, Result.andThen_ok, Sem.run_pure, run_bound (P := P) w rfl hmc, run_bound (P := P) w rfl h2, run_bound (P := P) w rfl h1, hz])
  exact this a w hk hX

/-! ## clear, behind a row's end -/
theorem e_clearTail {t e : TypeId} {i : TypeInfo} {z : Value} {x : Operand} {hi : Nat} (ho : o.op = .call ⟨.builtin .clear, #[x], #[t]⟩) (hd : o.dst = none) (ht : P.underlying t = some (.slice e)) (hi' : P.info? e = some i) (hz : i.zero = some z) (hzc : z.cells.size = E.sz) (hz1 : ∀ u ∈ z.cells.toList, u.oneCell' = true)
    (hx : ev L x = some (vsl v E.sz l.length hi)) (h1 : l.length ≤ hi) (h2 : hi ≤ vcap v) (h : Pre n L (St w0 D (rowE v e E l :: H)) K) : EOp P n L (St w0 D (rowE v e E l :: H)) o Q K :=
  EOp.val0 (β := Unit) (fun _ => .tuple #[]) (fun _ => True) (fun _ => St w0 D (rowE v e E l :: H)) hd (fun a w kn hX => by
    have hzv : ∀ w, (zeroValue e).run P w = .ok z w := fun w => by simp [zeroValue, typeInfo, hi', hz]
    suffices hs : ∃ w', (Builtin.clear_ #[t] o.type #[vsl v E.sz l.length hi]).run P w = .ok (.tuple #[]) w' ∧ St w0 D (rowE v e E l :: H) w' by
      obtain ⟨w', hr, h'⟩ := hs
      exact ⟨(), w', by simp [execOp, ho, resolve, invoke, builtin, kn.eval hx, hr], trivial, h'⟩
    have hat : Row v e E l ((ownB v).bind (w.heap[·]?)) := hX.at 0 rfl
    rcases hat with ⟨a', rfl, rfl⟩ | ⟨b, cap, pre, post, rfl, hcp, ho, hlc, hpost⟩
    · have h0 : hi = 0 := by have : hi ≤ 0 := h2; omega
      subst h0
      exact ⟨w, by cases a' <;> simp [vsl, Builtin.clear_, run_und ht], hX⟩
    · have h2' : hi ≤ cap := h2
      by_cases hk : hi - l.length = 0
      · refine ⟨w, ?_, hX⟩
        simp only [vsl, hk]
        cases hq : (if cap = l.length then (some (⟨b, pre.length, none⟩ : Addr)) else (some ⟨b, pre.length, none⟩ : Option Addr).map (·.add (l.length * E.sz))) <;> simp [Builtin.clear_, run_und ht]
      · have hown : ownB (.slice (some ⟨b, pre.length, none⟩) l.length cap) = some b := by simp [ownB]; omega
        have h1 : St w0 D (cellsE b e (pre ++ E.flat l ++ post) :: H) w := hX.head hown.symm (fun _ => by rw [hown] at ho; exact ho)
        have hl1 := E.flat_len l
        have hzs : (Builtin.zeroCells z.cells (hi - l.length)).toList.length = (hi - l.length) * E.sz := by rw [Array.length_toList, size_zeroCells, hzc]
        have hmul : (hi - l.length) * E.sz ≤ (cap - l.length) * E.sz := Nat.mul_le_mul_right _ (by omega)
        have hfit : pre.length + l.length * E.sz + 0 + (Builtin.zeroCells z.cells (hi - l.length)).toList.length ≤ (pre ++ E.flat l ++ post).length := by
          simp only [List.length_append]; omega
        obtain ⟨w', hr, h'⟩ := run_storeCs (P := P) (off := pre.length + l.length * E.sz) _ _ 0 h1 hfit (fun u hu => by
          obtain ⟨j, hj, rfl⟩ := Array.mem_iff_getElem.1 (Array.mem_toList_iff.1 hu)
          have hs := hj
          rw [size_zeroCells] at hs
          have hp : 0 < z.cells.size := by rcases Nat.eq_zero_or_pos z.cells.size with h0 | h0; rw [h0, Nat.mul_zero] at hs; exact absurd hs (Nat.not_lt_zero _); exact h0
          have e1 : (Builtin.zeroCells z.cells (hi - l.length))[j] = z.cells[j % z.cells.size]! := by simp [Builtin.zeroCells]
          rw [e1, getElem!_pos z.cells _ (Nat.mod_lt _ hp)]
          exact hz1 _ (Array.mem_toList_iff.2 (Array.getElem_mem _)))
        refine ⟨w', ?_, ?_⟩
        · have hc : ¬ (cap = l.length) := by omega
          obtain ⟨k, hk⟩ : ∃ k, hi - l.length = k + 1 := ⟨hi - l.length - 1, by omega⟩
          rw [hk] at hr
          simp [vsl, hc, hk, Builtin.clear_, run_und ht, hzv, add_none, hr]
        · rw [splice_eq _ _ _ (by simpa using hfit)] at h'
          have t1 : (pre ++ E.flat l ++ post).take (pre.length + l.length * E.sz + 0) = pre ++ E.flat l := by
            rw [Nat.add_zero, ← hl1, ← List.length_append, List.take_left]
          rw [t1, List.append_assoc] at h'
          refine row_close (cap := cap) h' hcp hlc ?_
          simp only [List.length_append, List.length_drop, Nat.add_zero]
          omega) (fun _ _ => h)

/-! ## append(s, make([]T, n)...) beyond the room -/
theorem e_appendMake {t tx e : TypeId} {i : TypeInfo} {z : Value} {s x : Operand} {m d : Nat} {a0 : α} (ho : o.op = .call ⟨.builtin .append, #[s, x], #[t, tx]⟩) (hd : o.dst = some d) (hnn : d.blt n = true) (ht : P.underlying t = some (.slice e)) (htx : P.underlying tx = some (.int .i64)) (hi : P.info? e = some i) (hs : i.size = E.sz) (hz : i.zero = some z) (hzc : z.cells.toList = E.f a0)
    (hsv : ev L s = some v) (hxv : ev L x = some (.int .i64 (m : Int))) (hv : ∀ w, St w0 D H w → RdV w v E l) (hgt : vcap v < l.length + m) (hb : (l.length + m) * i.bytes ≤ 140737488355328) (hn : l.length + m ≤ 9223372036854775807)
    (h : ∀ v', Pre n ((d, v') :: L) (St w0 D (rowE v' e E (l ++ List.replicate m a0) :: H)) K) : EOp P n L (St w0 D H) o Q K :=
  EOp.val (β := Value) (fun v => v) (fun _ => True) (fun v' => St w0 D (rowE v' e E (l ++ List.replicate m a0) :: H)) hd hnn (fun ac w kn hX => by
    have hrd := hv w hX
    have hrd0 := hrd
    obtain ⟨a, c, rfl, hc, _⟩ := hrd0
    have hgt' : c < l.length + m := hgt
    have hsz : ∀ w, (sizeOf e).run P w = .ok E.sz w := fun w => by simp [sizeOf, typeInfo, hi, hs]
    have hti : ∀ w, (typeInfo e).run P w = .ok i w := fun w => by simp [typeInfo, hi]
    have hzv : ∀ w, (zeroValue e).run P w = .ok z w := fun w => by simp [zeroValue, typeInfo, hi, hz]
    have hw1 : IntKind.i64.wrap (m : Int) = (m : Int) := wrap64_in (by omega)
    have hroom : ¬ (l.length + m ≤ c) := by omega
    have h64 : ¬ (9223372036854775807 < ((l.length : Int) + (m : Int))) := by omega
    have hfits := growslice_fits hgt' hb
    have h48 : ¬ (281474976710656 < Builtin.nextslicecap (l.length + m) c * i.bytes) := by omega
    have h5 : ¬ ((m : Int) * (i.bytes : Int) > 281474976710656) := by
      have : m * i.bytes ≤ (l.length + m) * i.bytes := Nat.mul_le_mul_right _ (by omega)
      rw [← Int.natCast_mul]; omega
    have h6 : ¬ ((m : Int) < 0) := by omega
    have hf1 := run_first (P := P) hrd.drew
    have hzc2 : z.cells.size = E.sz := by rw [← Array.length_toList, hzc, E.len]
    have hne : 0 < E.sz := E.pos
    have hzf : (Builtin.zeroCells z.cells m).toList = E.flat (List.replicate m a0) := by
      refine List.ext_getElem? (fun k => ?_)
      by_cases hk : k < m * E.sz
      · have hmod : k % E.sz < E.sz := Nat.mod_lt _ E.pos
        have hdiv : k / E.sz < m := (Nat.div_lt_iff_lt_mul E.pos).2 hk
        have e1 : k = k / E.sz * E.sz + k % E.sz := by rw [Nat.mul_comm]; exact (Nat.div_add_mod k E.sz).symm
        have hg := E.flat_get (List.replicate m a0) (k / E.sz) (k % E.sz) a0 _ (by simp [hdiv]) (List.getElem?_eq_getElem (by rw [E.len]; exact hmod))
        rw [← e1] at hg
        rw [hg]
        have h2 : z.cells[k % z.cells.size]! = (E.f a0)[k % E.sz]'(by rw [E.len]; exact hmod) := by
          rw [getElem!_pos z.cells (k % z.cells.size) (by rw [hzc2]; exact hmod)]
          have : z.cells.toList[k % z.cells.size]'(by rw [Array.length_toList, hzc2]; exact hmod) = (E.f a0)[k % E.sz]'(by rw [E.len]; exact hmod) := by simp only [hzc, hzc2]
          simpa using this
        have h3 : k < (Builtin.zeroCells z.cells m).size := by rw [size_zeroCells, hzc2]; exact hk
        rw [← h2, Array.getElem?_toList, Array.getElem?_eq_getElem h3]
        simp [Builtin.zeroCells]
      · rw [List.getElem?_eq_none (by rw [Array.length_toList, size_zeroCells, hzc2]; omega), List.getElem?_eq_none (by rw [E.flat_len, List.length_replicate]; omega)]
    have hm0 : ∀ w, (if m * E.sz = 0 then pure #[] else do pure (Builtin.zeroCells (← zeroValue e).cells m) : Sem (Array Value)).run P w = .ok (Builtin.zeroCells z.cells m) w := fun w => by
      split
      · rename_i h0
        have : m = 0 := by rcases Nat.mul_eq_zero.1 h0 with h | h; exact h; omega
        subst this
        have : Builtin.zeroCells z.cells 0 = #[] := by apply Array.toList_inj.1; rw [hzf]; rfl
        rw [this]; rfl
      · simp [hzv]
    have hrun : (Builtin.append_ #[t, tx] o.type #[.slice a l.length c, .int .i64 (m : Int)]).run P w = .ok (.slice (some ⟨w.heap.size, 0, none⟩) (l.length + m) (grownCap w (l.length + m) c e))
        (w.drew.alloc (.cells ((E.flat l).toArray ++ Builtin.zeroCells z.cells m ++ Builtin.zeroCells z.cells (grownCap w (l.length + m) c e - (l.length + m))) e)) := by
      have hmw := hm0 w.drew
      by_cases h0 : m * E.sz = 0
      · have hmz : m = 0 := by rcases Nat.mul_eq_zero.1 h0 with h | h; exact h; omega
        subst hmz
        omega
      · simp [Builtin.append_, run_und ht, run_und htx, hsz, hti, hzv, asInt, asIntOf, hw1, h6, h5, hroom, h64, h48, Question.forced, hf1, newRow, grownCap, h0, ← Array.append_assoc]
    have hge := grownCap_ge w (l.length + m) c e
    have hb2 : ownB (.slice (some ⟨w.heap.size, 0, none⟩) (l.length + m) (grownCap w (l.length + m) c e)) = some w.heap.size := by simp [ownB]; omega
    have h1 := (hX.drew).alloc (o := .cells ((E.flat l).toArray ++ Builtin.zeroCells z.cells m ++ Builtin.zeroCells z.cells (grownCap w (l.length + m) c e - (l.length + m))) e)
      (φ := Row (.slice (some ⟨w.heap.size, 0, none⟩) (l.length + m) (grownCap w (l.length + m) c e)) e E (l ++ List.replicate m a0)) (.inr ⟨w.heap.size, grownCap w (l.length + m) c e, [], (Builtin.zeroCells z.cells (grownCap w (l.length + m) c e - (l.length + m))).toList, by simp, by omega, by
        congr 2
        apply Array.toList_inj.1
        simp [E.flat_append, hzf], by simp; omega, by
        rw [Array.length_toList, size_zeroCells, hzc2, List.length_append, List.length_replicate]⟩)
    refine ⟨.slice (some ⟨w.heap.size, 0, none⟩) (l.length + m) (grownCap w (l.length + m) c e), w.drew.alloc (.cells ((E.flat l).toArray ++ Builtin.zeroCells z.cells m ++ Builtin.zeroCells z.cells (grownCap w (l.length + m) c e - (l.length + m))) e), by simp [execOp, ho, resolve, invoke, builtin, kn.eval hsv, kn.eval hxv, hrun], trivial, ?_⟩
    show St w0 D (⟨ownB _, _⟩ :: H) _
    rw [hb2]
    exact h1) (fun v' _ => h v')

/-! ## Half of a number -/
theorem q_half {t u : TypeId} {x y : Operand} {p : Int} (h : Nat) (ho : o.op = .binOp .shr t x y u) (hx : ev L x = some (.int .u64 p)) (hy : ev L y = some (.int .u64 1)) (hp : p.fdiv 2 = (h : Int)) : QOp P n L X o (.int .u64 (h : Int)) :=
  q_bin ho hx hy (fun w _ => by rw [Sem.run_bind, guardInt]; simp only [binOp, Op.shift]; rw [show min (1 : Int).toNat IntKind.u64.bits = 1 from rfl]; simp [hp])
/-! ## Two blocks do not overlap -/
theorem e_overlaps {f : FuncId} {fn : Func} {x y : Operand} {ts : Array TypeId} {d a b i j la lb ca cb sz : Nat} {t r e T U : TypeId} {cs us : List Value} (ho : o.op = .call ⟨.value (.func f), [x, y].toArray, ts⟩) (hd : o.dst = some d) (hnn : d.blt n = true) (hfn : P.funcs[f]? = some fn) (hb : fn.body.isNone = true) (hname : (fn.name == "runtime.NumGoroutine") = false) (hn : Extern.findNext fn = none) (he : Extern.find fn = some (Extern.SlicesOverlaps.overlaps #[t, t] #[r]))
    (ht : P.underlying t = some (.slice e)) (hz : ∀ w, (sizeOf e).run P w = .ok sz w) (hx : ev L x = some (.slice (some ⟨a, i, none⟩) la ca)) (hy : ev L y = some (.slice (some ⟨b, j, none⟩) lb cb)) (h1 : ∀ w, X w → (cellsE a T cs).at w) (h2 : ∀ w, X w → (cellsE b U us).at w) (hne : a ≠ b) (hu : us ≠ [])
    (h : Pre n ((d, .bool false) :: L) X K) : EOp P n L X o Q K :=
  EOp.val (β := Unit) (fun _ => .bool false) (fun _ => True) (fun _ => X) hd hnn (fun ac w kn hX => by
    have ha : w.heap[a]? = some (.cells cs.toArray T (0, 0)) := h1 w hX
    have hb' : w.heap[b]? = some (.cells us.toArray U (0, 0)) := h2 w hX
    refine ⟨(), w, ?_, trivial, hX⟩
    have hr := Lib.run_overlaps_apart w t r e ht sz hz ⟨a, i, none⟩ ⟨b, j, none⟩ la ca lb cb hne T U cs.length us.length (by simp [World.shape?, ha]) (by simp [World.shape?, hb']) (fun e => hu (List.eq_nil_of_length_eq_zero e)) (cellsE_free (h1 w hX) _) (cellsE_free (h1 w hX) _)
    have hc := run_callFunc_extern hfn hname hb hn he #[.slice (some ⟨a, i, none⟩) la ca, .slice (some ⟨b, j, none⟩) lb cb] w
    rw [hr] at hc
    simp only [Result.andThen_ok] at hc
    have hargs : ([x, y].toArray.map ac.eval) = #[.slice (some ⟨a, i, none⟩) la ca, .slice (some ⟨b, j, none⟩) lb cb] := by simp [kn.eval hx, kn.eval hy]
    have h0 : ∀ us : Array Value, (#[] ++ us ++ #[]) = us := fun us => by simp
    simp only [execOp, ho, resolve, Act.eval, Deferred.ofValue, Sem.run_bind, Sem.run_pure, Result.andThen_ok, invoke, hargs, h0, hc]) (fun _ _ => h)
end
end Go.Sep
