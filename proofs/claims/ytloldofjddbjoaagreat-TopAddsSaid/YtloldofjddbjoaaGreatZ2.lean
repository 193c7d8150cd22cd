/- Part 2 of the proof: texts of my own, laid behind one another. No condition. -/
import Derived.Test.YtloldofjddbjoaaGreatZ1
set_option linter.unusedVariables false
set_option linter.unusedSimpArgs false
set_option maxHeartbeats 8000000
set_option maxRecDepth 100000
namespace Go.Sep
open Go.RowKit Go.Proofs.YtloldofjddbjoaaGreat
theorem con_of {P : Program} {f : FuncId} {vs : List Value} {v : Value} {E : World → Prop} (h : ∀ w, E w → Calls P f vs.toArray w (fun e w' => e = .returned v ∧ Go.RowKit.Below w.heap.size w w')) : Con P f vs E [] (fun _ : Unit => v) (fun _ => True) (fun _ => []) := fun w hE hH =>
  (h w hE).mono (fun e w' ⟨he, hb⟩ => ⟨(), he, trivial, ⟨HP.nil w', fun b hb' => (by cases hb'), ⟨hb.os, hb.tape, hb.output, hb.size, fun b hb' _ => hb.block b hb'⟩⟩⟩)
theorem splice_all {cs vs : List Value} (h : vs.length = cs.length) : splice cs 0 vs = vs := by
  rw [splice_eq _ _ _ (by omega)]; simp [h]
theorem splice_mid {a b c vs : List Value} {k : Nat} (ha : a.length = k) (h : vs.length = b.length) : splice (a ++ (b ++ c)) k vs = a ++ (vs ++ c) := by
  subst ha
  rw [splice_eq _ _ _ (by simp [h]), List.take_left]
  rw [h, ← List.length_append, ← List.append_assoc, List.drop_left, List.append_assoc]
theorem part_mid {a b c : List Value} {k m : Nat} (ha : a.length = k) (hb : b.length = m) : ((a ++ (b ++ c)).drop k).take m = b := by
  subst ha; subst hb
  rw [List.drop_left, List.take_left]
structure Kv (m : Nat) where
  n : Int
  b : List Int
  len : b.length = m
  wn : (Lit.int .i64 n).wf = true
  wb : ∀ x ∈ b, (Lit.int .u8 x).wf = true
namespace Kv
variable {m : Nat}
def c (k : Kv m) : List Value := .int .i64 k.n :: k.b.map (.int .u8)
theorem ext' {k j : Kv m} (hn : k.n = j.n) (hb : k.b = j.b) : k = j := by
  cases k; cases j; simp only at hn hb; subst hn; subst hb; rfl
instance : DecidableEq (Kv m) := fun k j => if h : k.n = j.n ∧ k.b = j.b then isTrue (ext' h.1 h.2) else isFalse (fun e => h (by subst e; exact ⟨rfl, rfl⟩))
theorem c_len (k : Kv m) : k.c.length = m + 1 := by simp [c, k.len]
theorem map_inj {α : Type} {f : α → Value} (hf : ∀ a b, f a = f b → a = b) : ∀ {xs ys : List α}, xs.map f = ys.map f → xs = ys
  | [], [], _ => rfl
  | [], y :: ys, h => by simp at h
  | x :: xs, [], h => by simp at h
  | x :: xs, y :: ys, h => by
    simp only [List.map_cons, List.cons.injEq] at h
    rw [hf _ _ h.1, map_inj hf h.2]
theorem c_inj {k j : Kv m} : k.c = j.c ↔ k = j := by
  refine ⟨fun h => ?_, fun h => by rw [h]⟩
  simp only [c, List.cons.injEq, Value.int.injEq, true_and] at h
  exact ext' h.1 (map_inj (fun a b e => by simpa using e) h.2)
def ks (m : Nat) : List Sc := Sc.i .i64 :: List.replicate m (Sc.i .u8)
theorem kinds (k : Kv m) : Kinds (ks m) k.c := by
  refine ⟨by simp [ks, c, k.len], fun j q v h1 h2 => ?_⟩
  cases j with
  | zero => simp [ks, c] at h1 h2; subst h1 h2; exact ⟨k.n, rfl, k.wn⟩
  | succ j =>
    simp only [ks, List.getElem?_cons_succ, List.getElem?_replicate] at h1
    split at h1
    · simp only [Option.some.injEq] at h1
      subst h1
      simp only [c, List.getElem?_cons_succ, List.getElem?_map, Option.map_eq_some_iff] at h2
      obtain ⟨z, hz, rfl⟩ := h2
      exact ⟨z, rfl, k.wb z (List.mem_of_getElem? hz)⟩
    · simp at h1
theorem one (k : Kv m) : ∀ v ∈ k.c, v.oneCell' = true := by
  intro v hv
  rcases List.mem_cons.1 hv with rfl | hv
  · rfl
  · obtain ⟨z, _, rfl⟩ := List.mem_map.1 hv; rfl
theorem eqb {k j : Kv m} : k.c = j.c ↔ decide (k = j) = true := by rw [c_inj, decide_eq_true_eq]
def enc (m : Nat) : Enc (Kv m) := { sz := m + 1, f := Kv.c, len := c_len, pos := by omega, one := one }
end Kv
end Go.Sep
namespace Go.Sep
open Go.RowKit
section
variable {P : Program} {n : Nat} {L : Env} {X : World → Prop} {o : Oper} {Q : Exit → Act → World → Prop} {K : Act → World → Prop}
variable {w0 : World} {D : List Nat} {H : List Ent} {α : Type} {E : Enc α} {l : List α} {v : Value}
theorem run_firstK {w : World} {sa : Option Addr} {sc : Nat} {m : List α} (h : RdV w (.slice sa m.length sc) E m) (sl' sc' : Nat) : (Builtin.firstCells E.sz m.length (.slice sa sl' sc')).run P w = .ok (E.flat m).toArray w := by
  have := run_first (P := P) h
  cases sa <;> exact this
theorem e_copyW {t tx e : TypeId} {x y : Operand} {sa : Option Addr} {sl sc sc' b off dl dc : Nat} {T : TypeId} {cs : List Value} {m : List α} {d : Nat} (k : Nat) (ho : o.op = .call ⟨.builtin .copy, #[y, x], #[t, tx]⟩) (hd : o.dst = some d) (hnn : d.blt n = true) (ht : P.underlying t = some (.slice e)) (hz : ∀ w, (sizeOf e).run P w = .ok E.sz w)
    (hy : ev L y = some (.slice (some ⟨b, off, none⟩) dl dc)) (hxv : ev L x = some (.slice sa sl sc)) (hm : min sl dl = k) (hx : ∀ w, St w0 D (cellsE b T cs :: H) w → RdV w (.slice sa k sc') E m) (hfit : off + k * E.sz ≤ cs.length)
    (h : Pre n ((d, .int .i64 (k : Nat)) :: L) (St w0 D (cellsE b T (splice cs off (E.flat m)) :: H)) K) : EOp P n L (St w0 D (cellsE b T cs :: H)) o Q K :=
  EOp.val (β := Unit) (fun _ => .int .i64 (k : Nat)) (fun _ => True) (fun _ => St w0 D (cellsE b T (splice cs off (E.flat m)) :: H)) hd hnn (fun a w kn hX => by
    have hx1 := hx w hX
    have hk : m.length = k := by obtain ⟨a', c', e', _⟩ := hx1; cases e'; rfl
    subst hk
    have hf := run_firstK (P := P) hx1 sl sc
    have hlen := E.flat_len m
    obtain ⟨w', hr, h'⟩ := run_storeCs (P := P) (off := off) (E.flat m) _ 0 hX (by omega) (fun u hu => E.flat_one _ u hu)
    have hmin : Nat.min sl dl = m.length := hm
    have hl : (Builtin.lenOf (.slice sa sl sc)).run P w = .ok sl w := rfl
    refine ⟨(), w', ?_, trivial, by simpa using h'⟩
    simp [execOp, ho, resolve, invoke, builtin, kn.eval hy, kn.eval hxv, Builtin.copy_, run_und ht, hl, hz, hmin, hf, hr, goInt]) (fun _ _ => h)
theorem RdV.keepE {w : World} (h : RdV w0 v E l) (s : St w0 D H w) (hD : blk v ∉ D ∨ l = []) : RdV w v E l :=
  h.congr (fun hl => s.keep.block _ (h.lt hl) (hD.resolve_right hl))
theorem row_letters {F : Act → World → Prop} {e : TypeId} (hl : 0 < l.length) (k : ∀ b cap pre post, v = .slice (some ⟨b, pre.length, none⟩) l.length cap → l.length ≤ cap → post.length = (cap - l.length) * E.sz → Pre n L (St w0 D (cellsE b e (pre ++ E.flat l ++ post) :: H)) F) : Pre n L (St w0 D (rowE v e E l :: H)) F := fun a w kn hX => by
  obtain ⟨b, cap, pre, post, hv, hc, hp, h⟩ := row_open hX hl
  exact k b cap pre post hv hc hp a w kn h
theorem row_shut {F : Act → World → Prop} {b cap len : Nat} {e : TypeId} (l : List α) (pre post : List Value) {cs : List Value} (hcs : cs = pre ++ E.flat l ++ post) (hlen : l.length = len) (hc : 0 < cap) (hl : len ≤ cap) (hp : post.length = (cap - len) * E.sz) (k : Pre n L (St w0 D (rowE (.slice (some ⟨b, pre.length, none⟩) len cap) e E l :: H)) F) : Pre n L (St w0 D (cellsE b e cs :: H)) F := k.world _ (fun w s => by
  subst hcs; subst hlen
  exact row_close s hc hl hp)
theorem row_tail {F : Act → World → Prop} {e : TypeId} (i : Nat) (hi : i ≤ l.length) (k : Pre n L (St w0 D (rowE (vsl v E.sz i l.length) e E (l.drop i) :: H)) F) : Pre n L (St w0 D (rowE v e E l :: H)) F := k.world _ (fun w s => by
  have hat : Row v e E l ((ownB v).bind (w.heap[·]?)) := s.at 0 rfl
  rcases hat with ⟨a', rfl, rfl⟩ | ⟨b, cap, pre, post, rfl, hcp, ho, hlc, hpost⟩
  · have h0 : i = 0 := by simpa using hi
    subst h0
    exact s
  · have hown : ownB (.slice (some ⟨b, pre.length, none⟩) l.length cap) = some b := by simp [ownB]; omega
    by_cases hc : cap = i
    · have e1 : l.drop i = [] := List.drop_eq_nil_of_le (by omega)
      have e2 : vsl (.slice (some ⟨b, pre.length, none⟩) l.length cap) E.sz i l.length = .slice (some ⟨b, pre.length, none⟩) 0 0 := by
        have h1 : l.length - i = 0 := by omega
        have h2 : cap - i = 0 := by omega
        simp only [vsl, if_pos hc, h1, h2]
      rw [e1, e2]
      exact s.drop.row0 e E _
    · have h1 : St w0 D (cellsE b e (pre ++ E.flat l ++ post) :: H) w := s.head hown.symm (fun _ => by rw [hown] at ho; exact ho)
      have hl : (l.drop i).length = l.length - i := List.length_drop
      have hp : (pre ++ E.flat (l.take i)).length = pre.length + i * E.sz := by rw [List.length_append, E.flat_len, List.length_take]; congr 2; omega
      have e1 : pre ++ E.flat l ++ post = (pre ++ E.flat (l.take i)) ++ E.flat (l.drop i) ++ post := by
        rw [List.append_assoc pre (E.flat (l.take i)) (E.flat (l.drop i)), ← E.flat_append, List.take_append_drop]
      rw [e1] at h1
      have := row_close (cap := cap - i) h1 (by omega) (by omega) (by rw [hpost, hl]; congr 1; omega)
      rw [hp, hl] at this
      have e2 : vsl (.slice (some ⟨b, pre.length, none⟩) l.length cap) E.sz i l.length = .slice (some ⟨b, pre.length + i * E.sz, none⟩) (l.length - i) (cap - i) := by simp [vsl, hc, add_none]
      rw [e2]
      exact this)
theorem splice_part : ∀ (V M A C : List Value), M.length = V.length → splice (A ++ M ++ C) A.length V = A ++ V ++ C := fun V M A C h => by
  rw [splice_eq _ _ _ (by simp; omega)]
  congr 1
  · congr 1
    rw [List.append_assoc, List.take_left]
  · rw [← h, ← List.length_append, List.drop_left]
theorem splice_up (A B C : List Value) (t : Value) (h : C ≠ []) : splice (splice (A ++ B ++ C) (A.length + 1) B) A.length [t] = A ++ (t :: B) ++ C.drop 1 := by
  obtain ⟨x, R, hR⟩ : ∃ x R, B ++ C = x :: R := by
    cases hbc : B ++ C with
    | nil => exact absurd (List.append_eq_nil_iff.1 hbc).2 h
    | cons x R => exact ⟨x, R, rfl⟩
  have hc : 0 < C.length := List.length_pos_iff.2 h
  have hlen : R.length + 1 = B.length + C.length := by rw [← List.length_append, hR]; rfl
  have hd : R.drop B.length = C.drop 1 := by
    have : (B ++ C).drop (B.length + 1) = C.drop 1 := by rw [List.drop_length_add_append]
    rw [hR, List.drop_succ_cons] at this
    exact this
  have e1 : A ++ B ++ C = (A ++ [x]) ++ R.take B.length ++ R.drop B.length := by
    rw [List.append_assoc, hR, List.append_assoc, List.take_append_drop, List.append_assoc]; rfl
  have e2 := splice_part B (R.take B.length) (A ++ [x]) (R.drop B.length) (by rw [List.length_take]; omega)
  rw [List.length_append, List.length_singleton] at e2
  rw [e1, e2, List.append_assoc, splice_part [t] [x] A _ rfl, hd]
  simp
theorem splice_down (A Z C B : List Value) (t : Value) (h : Z.length = B.length + 1) : splice (splice (A ++ Z ++ C) A.length [t]) (A.length + 1) B = A ++ (t :: B) ++ C := by
  obtain ⟨x, R, rfl⟩ : ∃ x R, Z = x :: R := by
    cases Z with
    | nil => cases h
    | cons x R => exact ⟨x, R, rfl⟩
  have e1 : A ++ (x :: R) ++ C = A ++ [x] ++ (R ++ C) := by simp
  rw [e1, splice_part [t] [x] A _ rfl, ← List.append_assoc]
  have e2 := splice_part B R (A ++ [t]) C (by simpa using h)
  rw [List.length_append, List.length_singleton] at e2
  rw [e2]; simp
theorem run_appendIn {t tx e e' : TypeId} {x : Value} {m : List α} {ty : TypeId} {w : World} {i : Nat} (ht : P.underlying t = some (.slice e)) (htx : P.underlying tx = some (.slice e')) (hsz : ∀ w, (sizeOf e).run P w = .ok E.sz w)
    (h : St w0 D (rowE v e E l :: H) w) (hx : RdV w x E m) (hi : i + m.length ≤ l.length) :
    ∃ v' w', (Builtin.append_ #[t, tx] ty #[vsl v E.sz 0 i, x]).run P w = .ok v' w' ∧ vcap v' = vcap v ∧ St w0 D (rowE v' e E (l.take i ++ m) :: H) w' := by
  have hlen := run_lenOf (P := P) hx
  have hf := run_first (P := P) hx
  have hat : Row v e E l ((ownB v).bind (w.heap[·]?)) := h.at 0 rfl
  rcases hat with ⟨a', rfl, rfl⟩ | ⟨b, cap, pre, post, rfl, hcp, ho, hlc, hpost⟩
  · simp at hi
    obtain ⟨rfl, hm⟩ := hi
    subst hm
    simp only [List.length_nil, E.flat_nil] at hf
    refine ⟨.slice a' 0 0, w, ?_, rfl, by simpa using h⟩
    cases a' <;> simp [vsl, Builtin.append_, run_und ht, run_und htx, hsz, hlen, hf, Enc.flat_nil, storeCells]
  · have hown : ownB (.slice (some ⟨b, pre.length, none⟩) l.length cap) = some b := by simp [ownB]; omega
    have h1 : St w0 D (cellsE b e (pre ++ E.flat l ++ post) :: H) w := h.head hown.symm (fun _ => by rw [hown] at ho; exact ho)
    have hl1 := E.flat_len l
    have hl2 := E.flat_len m
    have hlen2 : (l.take i ++ m).length = i + m.length := by rw [List.length_append, List.length_take]; omega
    have hmul : (i + m.length) * E.sz ≤ l.length * E.sz := Nat.mul_le_mul_right _ hi
    have hmul2 : l.length * E.sz ≤ cap * E.sz := Nat.mul_le_mul_right _ hlc
    have hsub : (cap - l.length) * E.sz = cap * E.sz - l.length * E.sz := Nat.sub_mul ..
    have hsub2 : (cap - (i + m.length)) * E.sz = cap * E.sz - (i * E.sz + m.length * E.sz) := by rw [Nat.sub_mul, Nat.add_mul]
    rw [Nat.add_mul] at hmul
    have hfit : pre.length + i * E.sz + 0 + (E.flat m).length ≤ (pre ++ E.flat l ++ post).length := by
      simp only [List.length_append]; omega
    obtain ⟨w', hr, h'⟩ := run_storeCs (P := P) (off := pre.length + i * E.sz) (E.flat m) _ 0 h1 hfit (fun u hu => E.flat_one m u hu)
    have hroom : i + m.length ≤ cap := by omega
    have hc0 : ¬ (cap = 0) := by omega
    refine ⟨.slice (some ⟨b, pre.length, none⟩) (i + m.length) cap, w', ?_, rfl, ?_⟩
    · simp [vsl, hc0, Builtin.append_, run_und ht, run_und htx, hsz, hlen, hroom, hf, add_none, hr]
    · rw [splice_eq _ _ _ (by simpa using hfit)] at h'
      have t1 : (pre ++ E.flat l ++ post).take (pre.length + i * E.sz + 0) = pre ++ E.flat (l.take i) := by
        rw [Nat.add_zero, List.append_assoc, List.take_length_add_append, List.take_append_of_le_length (by omega), E.flat_take]
      rw [t1] at h'
      have e2 : pre ++ E.flat (l.take i) ++ E.flat m = pre ++ E.flat (l.take i ++ m) := by rw [E.flat_append, List.append_assoc]
      rw [e2] at h'
      have := row_close (cap := cap) h' hcp (by omega) (by
        rw [hlen2, hsub2]
        simp only [List.length_drop, List.length_append, Nat.add_zero]
        omega)
      rw [hlen2] at this
      exact this
theorem e_appendIn {t tx e e' : TypeId} {xv : Value} {s x : Operand} {m : List α} {d : Nat} (i : Nat) (ho : o.op = .call ⟨.builtin .append, #[s, x], #[t, tx]⟩) (hd : o.dst = some d) (hnn : d.blt n = true) (ht : P.underlying t = some (.slice e)) (htx : P.underlying tx = some (.slice e')) (hsz : ∀ w, (sizeOf e).run P w = .ok E.sz w)
    (hsv : ev L s = some (vsl v E.sz 0 i)) (hxv : ev L x = some xv) (hx : ∀ w, St w0 D (rowE v e E l :: H) w → RdV w xv E m) (hi : i + m.length ≤ l.length)
    (h : ∀ v', vcap v' = vcap v → Pre n ((d, v') :: L) (St w0 D (rowE v' e E (l.take i ++ m) :: H)) K) : EOp P n L (St w0 D (rowE v e E l :: H)) o Q K :=
  EOp.val (β := Value) (fun v => v) (fun v' => vcap v' = vcap v) (fun v' => St w0 D (rowE v' e E (l.take i ++ m) :: H)) hd hnn (fun a w kn hX => by
    obtain ⟨v', w', hr, hc, h'⟩ := run_appendIn (P := P) (ty := o.type) ht htx hsz hX (hx w hX) hi
    exact ⟨v', w', by simp [execOp, ho, resolve, invoke, builtin, kn.eval hsv, kn.eval hxv, hr], hc, h'⟩) (fun v' hv => h v' hv)
theorem q_sliceC {t e : TypeId} {x lo hi : Operand} {k k' : IntKind} {zl zh : Int} (i j : Nat) (ho : o.op = .slice t x (some lo) (some hi) none) (ht : P.underlying t = some (.slice e)) (hz : ∀ w, (sizeOf e).run P w = .ok E.sz w)
    (hx : ev L x = some v) (hr : ∀ w, X w → RdV w v E l) (hlo : ev L lo = some (.int k zl)) (hhi : ev L hi = some (.int k' zh)) (el : zl = (i : Int)) (eh : zh = (j : Int)) (h1 : i ≤ j) (h2 : j ≤ vcap v) :
    QOp P n L X o (vsl v E.sz i j) := fun a w hk hX => by
  obtain ⟨ad, c, rfl, hc, _⟩ := hr w hX
  subst el; subst eh
  have hjc : j ≤ c := h2
  have := QOp.mk (P := P) (n := n) (L := L) (X := X) (o := o) (v := vsl (.slice ad l.length c) E.sz i j) (fun a => Instr.sliceAt t (a.eval x) (some (a.eval lo)) (some (a.eval hi)) none) (fun a => by simp [execOp, ho]) (fun a w hk _ => by
    rw [hk.eval hx, hk.eval hlo, hk.eval hhi]
    simp only [Instr.sliceAt, Instr.slice, Instr.sliceBounds, Sem.run_bind, run_und ht, Result.andThen_ok, Sem.run_pure, run_bound (P := P) w rfl hjc, run_bound (P := P) w rfl h1, hz, vsl])
  exact this a w hk hX
theorem q_slice3 {t e : TypeId} {x lo hi mx : Operand} {k k' k'' : IntKind} {zl zh zm : Int} (i j m : Nat) (ho : o.op = .slice t x (some lo) (some hi) (some mx)) (ht : P.underlying t = some (.slice e)) (hz : ∀ w, (sizeOf e).run P w = .ok E.sz w)
    (hx : ev L x = some v) (hr : ∀ w, X w → RdV w v E l) (hlo : ev L lo = some (.int k zl)) (hhi : ev L hi = some (.int k' zh)) (hmx : ev L mx = some (.int k'' zm)) (el : zl = (i : Int)) (eh : zh = (j : Int)) (em : zm = (m : Int)) (h1 : i ≤ j) (h2 : j ≤ m) (h3 : m ≤ l.length) :
    QOp P n L X o (.slice (if m = i then (match v with | .slice a _ _ => a | _ => none : Option Addr) else (match v with | .slice a _ _ => a | _ => none : Option Addr).map (fun q : Addr => q.add (i * E.sz))) (j - i) (m - i)) := fun a w hk hX => by
  obtain ⟨ad, c, rfl, hc, _⟩ := hr w hX
  subst el; subst eh; subst em
  have hmc : m ≤ c := by omega
  have := QOp.mk (P := P) (n := n) (L := L) (X := X) (o := o) (v := .slice (if m = i then ad else ad.map (·.add (i * E.sz))) (j - i) (m - i)) (fun a => Instr.sliceAt t (a.eval x) (some (a.eval lo)) (some (a.eval hi)) (some (a.eval mx))) (fun a => by simp [execOp, ho]) (fun a w hk _ => by
    rw [hk.eval hx, hk.eval hlo, hk.eval hhi, hk.eval hmx]
    simp only [Instr.sliceAt, Instr.slice, Instr.sliceBounds, Sem.run_bind, run_und ht, Result.andThen_ok, Sem.run_pure, run_bound (P := P) w rfl hmc, run_bound (P := P) w rfl h2, run_bound (P := P) w rfl h1, hz])
  exact this a w hk hX
theorem e_clearTail {t e : TypeId} {i : TypeInfo} {z : Value} {x : Operand} {hi : Nat} (ho : o.op = .call ⟨.builtin .clear, #[x], #[t]⟩) (hd : o.dst = none) (ht : P.underlying t = some (.slice e)) (hi' : P.info? e = some i) (hz : i.zero = some z) (hzc : z.cells.size = E.sz) (hz1 : ∀ u ∈ z.cells.toList, u.oneCell' = true)
    (hx : ev L x = some (vsl v E.sz l.length hi)) (h1 : l.length ≤ hi) (h2 : hi ≤ vcap v) (h : Pre n L (St w0 D (rowE v e E l :: H)) K) : EOp P n L (St w0 D (rowE v e E l :: H)) o Q K :=
  EOp.val0 (β := Unit) (fun _ => .tuple #[]) (fun _ => True) (fun _ => St w0 D (rowE v e E l :: H)) hd (fun a w kn hX => by
    have hzv : ∀ w, (zeroValue e).run P w = .ok z w := fun w => by simp [zeroValue, typeInfo, hi', hz]
    suffices hs : ∃ w', (Builtin.clear_ #[t] o.type #[vsl v E.sz l.length hi]).run P w = .ok (.tuple #[]) w' ∧ St w0 D (rowE v e E l :: H) w' by
      obtain ⟨w', hr, h'⟩ := hs
      exact ⟨(), w', by simp [execOp, ho, resolve, invoke, builtin, kn.eval hx, hr], trivial, h'⟩
    have hat : Row v e E l ((ownB v).bind (w.heap[·]?)) := hX.at 0 rfl
    rcases hat with ⟨a', rfl, rfl⟩ | ⟨b, cap, pre, post, rfl, hcp, ho, hlc, hpost⟩
    · have h0 : hi = 0 := by have : hi ≤ 0 := h2; omega
      subst h0
      exact ⟨w, by cases a' <;> simp [vsl, Builtin.clear_, run_und ht], hX⟩
    · have h2' : hi ≤ cap := h2
      by_cases hk : hi - l.length = 0
      · refine ⟨w, ?_, hX⟩
        simp only [vsl, hk]
        cases hq : (if cap = l.length then (some (⟨b, pre.length, none⟩ : Addr)) else (some ⟨b, pre.length, none⟩ : Option Addr).map (·.add (l.length * E.sz))) <;> simp [Builtin.clear_, run_und ht]
      · have hown : ownB (.slice (some ⟨b, pre.length, none⟩) l.length cap) = some b := by simp [ownB]; omega
        have h1 : St w0 D (cellsE b e (pre ++ E.flat l ++ post) :: H) w := hX.head hown.symm (fun _ => by rw [hown] at ho; exact ho)
        have hl1 := E.flat_len l
        have hzs : (Builtin.zeroCells z.cells (hi - l.length)).toList.length = (hi - l.length) * E.sz := by rw [Array.length_toList, size_zeroCells, hzc]
        have hmul : (hi - l.length) * E.sz ≤ (cap - l.length) * E.sz := Nat.mul_le_mul_right _ (by omega)
        have hfit : pre.length + l.length * E.sz + 0 + (Builtin.zeroCells z.cells (hi - l.length)).toList.length ≤ (pre ++ E.flat l ++ post).length := by
          simp only [List.length_append]; omega
        obtain ⟨w', hr, h'⟩ := run_storeCs (P := P) (off := pre.length + l.length * E.sz) _ _ 0 h1 hfit (fun u hu => by
          obtain ⟨j, hj, rfl⟩ := Array.mem_iff_getElem.1 (Array.mem_toList_iff.1 hu)
          have hs := hj
          rw [size_zeroCells] at hs
          have hp : 0 < z.cells.size := by rcases Nat.eq_zero_or_pos z.cells.size with h0 | h0; rw [h0, Nat.mul_zero] at hs; exact absurd hs (Nat.not_lt_zero _); exact h0
          have e1 : (Builtin.zeroCells z.cells (hi - l.length))[j] = z.cells[j % z.cells.size]! := by simp [Builtin.zeroCells]
          rw [e1, getElem!_pos z.cells _ (Nat.mod_lt _ hp)]
          exact hz1 _ (Array.mem_toList_iff.2 (Array.getElem_mem _)))
        refine ⟨w', ?_, ?_⟩
        · have hc : ¬ (cap = l.length) := by omega
          obtain ⟨k, hk⟩ : ∃ k, hi - l.length = k + 1 := ⟨hi - l.length - 1, by omega⟩
          rw [hk] at hr
          simp [vsl, hc, hk, Builtin.clear_, run_und ht, hzv, add_none, hr]
        · rw [splice_eq _ _ _ (by simpa using hfit)] at h'
          have t1 : (pre ++ E.flat l ++ post).take (pre.length + l.length * E.sz + 0) = pre ++ E.flat l := by
            rw [Nat.add_zero, ← hl1, ← List.length_append, List.take_left]
          rw [t1, List.append_assoc] at h'
          refine row_close (cap := cap) h' hcp hlc ?_
          simp only [List.length_append, List.length_drop, Nat.add_zero]
          omega) (fun _ _ => h)
theorem e_appendMake {t tx e : TypeId} {i : TypeInfo} {z : Value} {s x : Operand} {m d : Nat} {a0 : α} (ho : o.op = .call ⟨.builtin .append, #[s, x], #[t, tx]⟩) (hd : o.dst = some d) (hnn : d.blt n = true) (ht : P.underlying t = some (.slice e)) (htx : P.underlying tx = some (.int .i64)) (hi : P.info? e = some i) (hs : i.size = E.sz) (hz : i.zero = some z) (hzc : z.cells.toList = E.f a0)
    (hsv : ev L s = some v) (hxv : ev L x = some (.int .i64 (m : Int))) (hv : ∀ w, St w0 D H w → RdV w v E l) (hgt : vcap v < l.length + m) (hb : (l.length + m) * i.bytes ≤ 140737488355328) (hn : l.length + m ≤ 9223372036854775807)
    (h : ∀ v', Pre n ((d, v') :: L) (St w0 D (rowE v' e E (l ++ List.replicate m a0) :: H)) K) : EOp P n L (St w0 D H) o Q K :=
  EOp.val (β := Value) (fun v => v) (fun _ => True) (fun v' => St w0 D (rowE v' e E (l ++ List.replicate m a0) :: H)) hd hnn (fun ac w kn hX => by
    have hrd := hv w hX
    have hrd0 := hrd
    obtain ⟨a, c, rfl, hc, _⟩ := hrd0
    have hgt' : c < l.length + m := hgt
    have hsz : ∀ w, (sizeOf e).run P w = .ok E.sz w := fun w => by simp [sizeOf, typeInfo, hi, hs]
    have hti : ∀ w, (typeInfo e).run P w = .ok i w := fun w => by simp [typeInfo, hi]
    have hzv : ∀ w, (zeroValue e).run P w = .ok z w := fun w => by simp [zeroValue, typeInfo, hi, hz]
    have hw1 : IntKind.i64.wrap (m : Int) = (m : Int) := wrap64_in (by omega)
    have hroom : ¬ (l.length + m ≤ c) := by omega
    have h64 : ¬ (9223372036854775807 < ((l.length : Int) + (m : Int))) := by omega
    have hfits := growslice_fits hgt' hb
    have h48 : ¬ (281474976710656 < Builtin.nextslicecap (l.length + m) c * i.bytes) := by omega
    have h5 : ¬ ((m : Int) * (i.bytes : Int) > 281474976710656) := by
      have : m * i.bytes ≤ (l.length + m) * i.bytes := Nat.mul_le_mul_right _ (by omega)
      rw [← Int.natCast_mul]; omega
    have h6 : ¬ ((m : Int) < 0) := by omega
    have hf1 := run_first (P := P) hrd.drew
    have hzc2 : z.cells.size = E.sz := by rw [← Array.length_toList, hzc, E.len]
    have hne : 0 < E.sz := E.pos
    have hzf : (Builtin.zeroCells z.cells m).toList = E.flat (List.replicate m a0) := by
      refine List.ext_getElem? (fun k => ?_)
      by_cases hk : k < m * E.sz
      · have hmod : k % E.sz < E.sz := Nat.mod_lt _ E.pos
        have hdiv : k / E.sz < m := (Nat.div_lt_iff_lt_mul E.pos).2 hk
        have e1 : k = k / E.sz * E.sz + k % E.sz := by rw [Nat.mul_comm]; exact (Nat.div_add_mod k E.sz).symm
        have hg := E.flat_get (List.replicate m a0) (k / E.sz) (k % E.sz) a0 _ (by simp [hdiv]) (List.getElem?_eq_getElem (by rw [E.len]; exact hmod))
        rw [← e1] at hg
        rw [hg]
        have h2 : z.cells[k % z.cells.size]! = (E.f a0)[k % E.sz]'(by rw [E.len]; exact hmod) := by
          rw [getElem!_pos z.cells (k % z.cells.size) (by rw [hzc2]; exact hmod)]
          have : z.cells.toList[k % z.cells.size]'(by rw [Array.length_toList, hzc2]; exact hmod) = (E.f a0)[k % E.sz]'(by rw [E.len]; exact hmod) := by simp only [hzc, hzc2]
          simpa using this
        have h3 : k < (Builtin.zeroCells z.cells m).size := by rw [size_zeroCells, hzc2]; exact hk
        rw [← h2, Array.getElem?_toList, Array.getElem?_eq_getElem h3]
        simp [Builtin.zeroCells]
      · rw [List.getElem?_eq_none (by rw [Array.length_toList, size_zeroCells, hzc2]; omega), List.getElem?_eq_none (by rw [E.flat_len, List.length_replicate]; omega)]
    have hm0 : ∀ w, (if m * E.sz = 0 then pure #[] else do pure (Builtin.zeroCells (← zeroValue e).cells m) : Sem (Array Value)).run P w = .ok (Builtin.zeroCells z.cells m) w := fun w => by
      split
      · rename_i h0
        have : m = 0 := by rcases Nat.mul_eq_zero.1 h0 with h | h; exact h; omega
        subst this
        have : Builtin.zeroCells z.cells 0 = #[] := by apply Array.toList_inj.1; rw [hzf]; rfl
        rw [this]; rfl
      · simp [hzv]
    have hrun : (Builtin.append_ #[t, tx] o.type #[.slice a l.length c, .int .i64 (m : Int)]).run P w = .ok (.slice (some ⟨w.heap.size, 0, none⟩) (l.length + m) (grownCap w (l.length + m) c e))
        (w.drew.alloc (.cells ((E.flat l).toArray ++ Builtin.zeroCells z.cells m ++ Builtin.zeroCells z.cells (grownCap w (l.length + m) c e - (l.length + m))) e)) := by
      have hmw := hm0 w.drew
      by_cases h0 : m * E.sz = 0
      · have hmz : m = 0 := by rcases Nat.mul_eq_zero.1 h0 with h | h; exact h; omega
        subst hmz
        omega
      · simp [Builtin.append_, run_und ht, run_und htx, hsz, hti, hzv, asInt, asIntOf, hw1, h6, h5, hroom, h64, h48, Question.forced, hf1, newRow, grownCap, h0, ← Array.append_assoc]
    have hge := grownCap_ge w (l.length + m) c e
    have hb2 : ownB (.slice (some ⟨w.heap.size, 0, none⟩) (l.length + m) (grownCap w (l.length + m) c e)) = some w.heap.size := by simp [ownB]; omega
    have h1 := (hX.drew).alloc (o := .cells ((E.flat l).toArray ++ Builtin.zeroCells z.cells m ++ Builtin.zeroCells z.cells (grownCap w (l.length + m) c e - (l.length + m))) e)
      (φ := Row (.slice (some ⟨w.heap.size, 0, none⟩) (l.length + m) (grownCap w (l.length + m) c e)) e E (l ++ List.replicate m a0)) (.inr ⟨w.heap.size, grownCap w (l.length + m) c e, [], (Builtin.zeroCells z.cells (grownCap w (l.length + m) c e - (l.length + m))).toList, by simp, by omega, by
        congr 2
        apply Array.toList_inj.1
        simp [E.flat_append, hzf], by simp; omega, by
        rw [Array.length_toList, size_zeroCells, hzc2, List.length_append, List.length_replicate]⟩)
    refine ⟨.slice (some ⟨w.heap.size, 0, none⟩) (l.length + m) (grownCap w (l.length + m) c e), w.drew.alloc (.cells ((E.flat l).toArray ++ Builtin.zeroCells z.cells m ++ Builtin.zeroCells z.cells (grownCap w (l.length + m) c e - (l.length + m))) e), by simp [execOp, ho, resolve, invoke, builtin, kn.eval hsv, kn.eval hxv, hrun], trivial, ?_⟩
    show St w0 D (⟨ownB _, _⟩ :: H) _
    rw [hb2]
    exact h1) (fun v' _ => h v')
theorem q_half {t u : TypeId} {x y : Operand} {p : Int} (h : Nat) (ho : o.op = .binOp .shr t x y u) (hx : ev L x = some (.int .u64 p)) (hy : ev L y = some (.int .u64 1)) (hp : p.fdiv 2 = (h : Int)) : QOp P n L X o (.int .u64 (h : Int)) :=
  q_bin ho hx hy (fun w _ => by rw [Sem.run_bind, guardInt]; simp only [binOp, Op.shift]; rw [show min (1 : Int).toNat IntKind.u64.bits = 1 from rfl]; simp [hp])
theorem e_overlaps {f : FuncId} {fn : Func} {x y : Operand} {ts : Array TypeId} {d a b i j la lb ca cb sz : Nat} {t r e T U : TypeId} {cs us : List Value} (ho : o.op = .call ⟨.value (.func f), [x, y].toArray, ts⟩) (hd : o.dst = some d) (hnn : d.blt n = true) (hfn : P.funcs[f]? = some fn) (hb : fn.body.isNone = true) (hname : (fn.name == "runtime.NumGoroutine") = false) (hn : Extern.findNext fn = none) (he : Extern.find fn = some (Extern.SlicesOverlaps.overlaps #[t, t] #[r]))
    (ht : P.underlying t = some (.slice e)) (hz : ∀ w, (sizeOf e).run P w = .ok sz w) (hx : ev L x = some (.slice (some ⟨a, i, none⟩) la ca)) (hy : ev L y = some (.slice (some ⟨b, j, none⟩) lb cb)) (h1 : ∀ w, X w → (cellsE a T cs).at w) (h2 : ∀ w, X w → (cellsE b U us).at w) (hne : a ≠ b) (hu : us ≠ [])
    (h : Pre n ((d, .bool false) :: L) X K) : EOp P n L X o Q K :=
  EOp.val (β := Unit) (fun _ => .bool false) (fun _ => True) (fun _ => X) hd hnn (fun ac w kn hX => by
    have ha : w.heap[a]? = some (.cells cs.toArray T (0, 0)) := h1 w hX
    have hb' : w.heap[b]? = some (.cells us.toArray U (0, 0)) := h2 w hX
    refine ⟨(), w, ?_, trivial, hX⟩
    have hr := Lib.run_overlaps_apart w t r e ht sz hz ⟨a, i, none⟩ ⟨b, j, none⟩ la ca lb cb hne T U cs.length us.length (by simp [World.shape?, ha]) (by simp [World.shape?, hb']) (fun e => hu (List.eq_nil_of_length_eq_zero e)) (cellsE_free (h1 w hX) _) (cellsE_free (h1 w hX) _)
    have hc := run_callFunc_extern hfn hname hb hn he #[.slice (some ⟨a, i, none⟩) la ca, .slice (some ⟨b, j, none⟩) lb cb] w
    rw [hr] at hc
    simp only [Result.andThen_ok] at hc
    have hargs : ([x, y].toArray.map ac.eval) = #[.slice (some ⟨a, i, none⟩) la ca, .slice (some ⟨b, j, none⟩) lb cb] := by simp [kn.eval hx, kn.eval hy]
    have h0 : ∀ us : Array Value, (#[] ++ us ++ #[]) = us := fun us => by simp
    simp only [execOp, ho, resolve, Act.eval, Deferred.ofValue, Sem.run_bind, Sem.run_pure, Result.andThen_ok, invoke, hargs, h0, hc]) (fun _ _ => h)
end
end Go.Sep
namespace Go.Sep
open Go.RowKit Go.Proofs.YtloldofjddbjoaaGreat
section plain
variable {α β : Type} [DecidableEq α]
def mfind (a : α) : List (α × β) → Nat → Option (Nat × β)
  | [], _ => none
  | (x, y) :: l, i => if a = x then some (i, y) else mfind a l (i + 1)
def mput (a : α) (v : β) : List (α × β) → List (α × β)
  | [] => [(a, v)]
  | (x, y) :: l => if a = x then (a, v) :: l else (x, y) :: mput a v l
def mget (a : α) : List (α × β) → Option β
  | [] => none
  | (x, y) :: l => if a = x then some y else mget a l
theorem mfind_none {a : α} {v : β} : ∀ {l : List (α × β)} {i : Nat}, mfind a l i = none → mput a v l = l ++ [(a, v)]
  | [], i, h => rfl
  | (x, y) :: l, i, h => by
    simp only [mfind] at h
    split at h
    · cases h
    · rename_i hne
      simp only [mput, if_neg hne]
      rw [mfind_none (v := v) h]; rfl
theorem mfind_get {a : α} : ∀ {l : List (α × β)} {i : Nat}, mget a l = (mfind a l i).map Prod.snd
  | [], i => rfl
  | (x, y) :: l, i => by
    simp only [mfind, mget]
    split
    · rfl
    · exact mfind_get
theorem mfind_some {a : α} {v y : β} : ∀ {l : List (α × β)} {i j : Nat}, mfind a l i = some (j, y) → i ≤ j ∧ l[j - i]? = some (a, y) ∧ mput a v l = l.set (j - i) (a, v)
  | [], i, j, h => by cases h
  | (x, z) :: l, i, j, h => by
    simp only [mfind] at h
    split at h
    · rename_i he
      cases h
      subst he
      simp [mput]
    · rename_i hne
      obtain ⟨h1, h2, h3⟩ := mfind_some (v := v) h
      have e : j - i = (j - (i + 1)) + 1 := by omega
      simp only [mput, if_neg hne]
      rw [e]
      exact ⟨by omega, by simpa using h2, by rw [List.set_cons_succ, h3]⟩
end plain
section
variable {P : Program} {n : Nat} {L : Env} {X : World → Prop} {o : Oper} {Q : Exit → Act → World → Prop} {K : Act → World → Prop}
variable {w0 : World} {D : List Nat} {H : List Ent} {α β : Type} [DecidableEq α] {kf : α → Value} {vf : β → Value}
def mapE (b : Nat) (kf : α → Value) (vf : β → Value) (l : List (α × β)) : Ent := ⟨some b, fun o => ∃ m c, o = some (.map m c) ∧ m.toList.map (fun e => (e.key, e.val)) = l.map (fun p => (kf p.1, vf p.2))⟩
structure KeyOk (P : Program) (kt : TypeId) (kf : α → Value) : Prop where
  ck : ∀ em w a, (Instr.checkKey em 10000 kt (kf a)).run P w = .ok () w
  find : ∀ w a (es : List MapEntry) (β : Type) (vf : β → Value) (l : List (α × β)), es.map (fun e => (e.key, e.val)) = l.map (fun p => (kf p.1, vf p.2)) → (Instr.findKey kt (kf a) es).run P w = .ok ((mfind a l 0).map (fun p => (p.1, vf p.2))) w
  same : ∀ a, Instr.sameBits 10000 (kf a) (kf a) = true
theorem findAsking_eq {kt : TypeId} (heq : ∀ w a x, (Op.equal kt (kf a) (kf x)).run P w = .ok (decide (a = x)) w) (w : World) (a : α) : ∀ (es : List MapEntry) (l : List (α × β)) (i : Nat), es.map (fun e => (e.key, e.val)) = l.map (fun p => (kf p.1, vf p.2)) →
    (Instr.findAsking kt (kf a) es i).run P w = .ok ((mfind a l i).map (fun p => (p.1, vf p.2))) w
  | [], [], i, h => rfl
  | [], _ :: _, i, h => by cases h
  | _ :: _, [], i, h => by cases h
  | e :: es, (x, y) :: l, i, h => by
    simp only [List.map_cons, List.cons.injEq, Prod.mk.injEq] at h
    obtain ⟨⟨h1, h2⟩, h3⟩ := h
    simp only [Instr.findAsking, h1, Sem.run_bind, heq, Result.andThen_ok, mfind]
    by_cases hax : a = x
    · simp [hax, h2]
    · simp only [hax, decide_false, Bool.false_eq_true, if_false]
      exact findAsking_eq heq w a es l (i + 1) h3
omit [DecidableEq α] in
theorem map_obj {b : Nat} {l : List (α × β)} {w : World} (h : (mapE b kf vf l).at w) : ∃ m c, w.heap[b]? = some (.map m c) ∧ m.toList.map (fun e => (e.key, e.val)) = l.map (fun p => (kf p.1, vf p.2)) := h
theorem run_lookup {t kt vt : TypeId} {b : Nat} {l : List (α × β)} {w : World} (a : α) {z : Value} (ht : P.underlying t = some (.map kt vt)) (hK : KeyOk P kt kf) (hz : ∀ w, (zeroValue vt).run P w = .ok z w) (h : (mapE b kf vf l).at w) (ok : Bool) :
    (Instr.lookup t (.map (some b)) (kf a) ok).run P w = .ok (if ok then .tuple #[match mget a l with | some y => vf y | none => z, .bool (mget a l).isSome] else match mget a l with | some y => vf y | none => z) w := by
  obtain ⟨m, c, hm, hl⟩ := map_obj h
  have hg : (getObj b).run P w = .ok (.map m c) w := by simp [getObj, Sem.run, hm]
  have hf := hK.find w a m.toList β vf l hl
  have hmg := mfind_get (a := a) (l := l) (i := 0)
  unfold Instr.lookup
  cases hfi : mfind a l 0 with
  | none =>
    rw [hfi] at hf hmg
    simp only [Option.map_none] at hf hmg
    simp [run_und ht, hg, hK.ck, hf, hz, hmg]
  | some p =>
    rw [hfi] at hf hmg
    simp only [Option.map_some] at hf hmg
    simp [run_und ht, hg, hK.ck, hf, hmg]
theorem e_clearC {t e : TypeId} {i : TypeInfo} {z : Value} {x : Operand} {b off m c : Nat} {T : TypeId} {cs : List Value} (ho : o.op = .call ⟨.builtin .clear, #[x], #[t]⟩) (hd : o.dst = none) (ht : P.underlying t = some (.slice e)) (hi : P.info? e = some i) (hz : i.zero = some z) (hzc : z.cells = #[z]) (hz1 : z.oneCell' = true)
    (hx : ev L x = some (.slice (some ⟨b, off, none⟩) m c)) (hfit : off + m ≤ cs.length) (h : Pre n L (St w0 D (cellsE b T (splice cs off (List.replicate m z)) :: H)) K) : EOp P n L (St w0 D (cellsE b T cs :: H)) o Q K :=
  EOp.val0 (β := Unit) (fun _ => .tuple #[]) (fun _ => True) (fun _ => St w0 D (cellsE b T (splice cs off (List.replicate m z)) :: H)) hd (fun a w kn hX => by
    have hzv : ∀ w, (zeroValue e).run P w = .ok z w := fun w => by simp [zeroValue, typeInfo, hi, hz]
    have hzl : (Builtin.zeroCells z.cells m).toList = List.replicate m z := by
      rw [hzc]
      refine List.ext_getElem? (fun j => ?_)
      by_cases hj : j < m
      · simp [Builtin.zeroCells, hj, Nat.mod_one]
      · rw [List.getElem?_eq_none (by rw [Array.length_toList, size_zeroCells]; simp; omega), List.getElem?_eq_none (by simp; omega)]
    obtain ⟨w', hr, h'⟩ := run_storeCs (P := P) (off := off) (List.replicate m z) cs 0 hX (by simp; omega) (fun u hu => by rw [(List.mem_replicate.1 hu).2]; exact hz1)
    rw [Nat.add_zero] at h'
    refine ⟨(), w', ?_, trivial, h'⟩
    cases m with
    | zero =>
      have : w' = w := by
        simp [storeCells] at hr; exact hr.symm
      subst this
      simp [execOp, ho, resolve, invoke, builtin, kn.eval hx, Builtin.clear_, run_und ht]
    | succ k =>
      rw [← hzl] at hr
      simp [execOp, ho, resolve, invoke, builtin, kn.eval hx, Builtin.clear_, run_und ht, hzv, hr]) (fun _ _ => h)
theorem e_copyS {t tx e : TypeId} {x y : Operand} {s : ByteArray} {b off dn dc : Nat} {T : TypeId} {cs : List Value} {d : Nat} (ho : o.op = .call ⟨.builtin .copy, #[y, x], #[t, tx]⟩) (hd : o.dst = some d) (hnn : d.blt n = true) (ht : P.underlying t = some (.slice e)) (hz : ∀ w, (sizeOf e).run P w = .ok 1 w)
    (hy : ev L y = some (.slice (some ⟨b, off, none⟩) dn dc)) (hxv : ev L x = some (.string s)) (hsn : s.size ≤ dn) (hfit : off + s.size ≤ cs.length)
    (h : Pre n ((d, .int .i64 (s.size : Nat)) :: L) (St w0 D (cellsE b T (splice cs off (s.data.toList.map (fun q => Value.int .u8 (q.toNat : Int)))) :: H)) K) : EOp P n L (St w0 D (cellsE b T cs :: H)) o Q K :=
  EOp.val (β := Unit) (fun _ => .int .i64 (s.size : Nat)) (fun _ => True) (fun _ => St w0 D (cellsE b T (splice cs off (s.data.toList.map (fun q => Value.int .u8 (q.toNat : Int)))) :: H)) hd hnn (fun a w kn hX => by
    have hl : (s.data.toList.map (fun q => Value.int .u8 (q.toNat : Int))).length = s.size := by rw [List.length_map, Array.length_toList]; rfl
    obtain ⟨w', hr, h'⟩ := run_storeCs (P := P) (off := off) (s.data.toList.map (fun q => Value.int .u8 (q.toNat : Int))) cs 0 hX (by rw [hl]; omega) (fun u hu => by obtain ⟨q, _, rfl⟩ := List.mem_map.1 hu; rfl)
    rw [Nat.add_zero] at h'
    have hmin : Nat.min s.size dn = s.size := Nat.min_eq_left hsn
    have hf : (Builtin.firstCells 1 s.size (.string s)).run P w = .ok (s.data.toList.map (fun q => Value.int .u8 (q.toNat : Int))).toArray w := by
      have he : s.extract 0 s.size = s := by
        apply ByteArray.ext
        simp [ByteArray.data_extract]
      simp only [Builtin.firstCells, he]
      show Result.ok _ w = _
      congr 1
      apply Array.toList_inj.1
      simp
    have hlen : (Builtin.lenOf (.string s)).run P w = .ok s.size w := rfl
    refine ⟨(), w', ?_, trivial, h'⟩
    simp [execOp, ho, resolve, invoke, builtin, kn.eval hy, kn.eval hxv, Builtin.copy_, run_und ht, hlen, hz, hmin, hf, hr, goInt]) (fun _ _ => h)
end
end Go.Sep
namespace Go.Sep
open Go.RowKit Go.MapKept Go.Proofs.YtloldofjddbjoaaGreat
section plain
variable {α β : Type} [DecidableEq α]
def mpos (a : α) : List (α × β) → Nat
  | [] => 0
  | (x, _) :: l => if a = x then 0 else mpos a l + 1
theorem mput_set' (a : α) (v u : β) : ∀ l : List (α × β), (mput a v l).set (mpos a l) (a, u) = mput a u l
  | [] => rfl
  | (x, y) :: l => by
    simp only [mput, mpos]
    by_cases h : a = x
    · simp [h]
    · simp only [if_neg h, List.set_cons_succ]; rw [mput_set' a v u l]
theorem mput_pos (a : α) (v : β) : ∀ l : List (α × β), (mput a v l)[mpos a l]? = some (a, v)
  | [] => rfl
  | (x, y) :: l => by
    simp only [mput, mpos]
    by_cases h : a = x
    · simp [h]
    · simp only [if_neg h, List.getElem?_cons_succ]; exact mput_pos a v l
theorem mget_put (a : α) (v : β) : ∀ l : List (α × β), mget a (mput a v l) = some v
  | [] => by simp [mput, mget]
  | (x, y) :: l => by
    simp only [mput]
    by_cases h : a = x
    · subst h; simp [mget]
    · simp only [if_neg h, mget]; exact mget_put a v l
theorem mfind_pos {a : α} {y : β} : ∀ {l : List (α × β)} {i j : Nat}, mfind a l i = some (j, y) → j = i + mpos a l
  | [], i, j, h => by cases h
  | (x, z) :: l, i, j, h => by
    simp only [mfind] at h
    simp only [mpos]
    split at h
    · rename_i he; cases h; simp [he]
    · rename_i hne; have := mfind_pos h; rw [if_neg hne]; omega
theorem mfind_len {a : α} : ∀ {l : List (α × β)} {i : Nat}, mfind a l i = none → mpos a l = l.length
  | [], i, h => rfl
  | (x, z) :: l, i, h => by
    simp only [mfind] at h
    simp only [mpos]
    split at h
    · cases h
    · rename_i hne; rw [if_neg hne, mfind_len h]; rfl
end plain
section
variable {P : Program} {n : Nat} {L : Env} {X : World → Prop} {o : Oper} {Q : Exit → Act → World → Prop} {K : Act → World → Prop}
variable {w0 : World} {D : List Nat} {H : List Ent} {α β : Type} [DecidableEq α] {kf : α → Value} {vf : β → Value}
def mapS (b : Nat) (kf : α → Value) (vf : β → Value) (l : List (α × β)) : Ent := ⟨some b, fun o => ∃ m c, o = some (.map m c) ∧ m.toList.map (fun e => (e.key, e.val)) = l.map (fun p => (kf p.1, vf p.2)) ∧ (∀ (i : Nat) (e : MapEntry), m[i]? = some e → e.born = i) ∧ c = m.size⟩
end
end Go.Sep
namespace Go.Sep
open Go.RowKit Go.MapKept Go.Proofs.YtloldofjddbjoaaGreat
theorem eraseIdx_map' {α β : Type} (f : α → β) : ∀ (l : List α) (i : Nat), (l.eraseIdx i).map f = (l.map f).eraseIdx i
  | [], _ => rfl
  | _ :: _, 0 => rfl
  | _ :: l, i + 1 => by simp only [List.eraseIdx_cons_succ, List.map_cons]; rw [eraseIdx_map' f l i]
section plain
variable {α β : Type} [DecidableEq α]
def mdelT (a : α) : List (α × β) → List (α × β)
  | [] => []
  | (x, y) :: l => if a = x then l else (x, y) :: mdelT a l
theorem mdelT_none {a : α} : ∀ {l : List (α × β)} {i : Nat}, mfind a l i = none → mdelT a l = l
  | [], i, h => rfl
  | (x, y) :: l, i, h => by
    simp only [mfind] at h
    split at h
    · cases h
    · rename_i hne; simp only [mdelT, if_neg hne]; rw [mdelT_none h]
theorem mdelT_some {a : α} {y : β} : ∀ {l : List (α × β)} {i j : Nat}, mfind a l i = some (j, y) → i ≤ j ∧ mdelT a l = l.eraseIdx (j - i)
  | [], i, j, h => by cases h
  | (x, z) :: l, i, j, h => by
    simp only [mfind] at h
    split at h
    · rename_i he; cases h; simp [mdelT, he]
    · rename_i hne
      obtain ⟨h1, h2⟩ := mdelT_some h
      have e : j - i = (j - (i + 1)) + 1 := by omega
      simp only [mdelT, if_neg hne]
      rw [e, List.eraseIdx_cons_succ, h2]
      exact ⟨by omega, rfl⟩
theorem mget_delT {a b : α} (h : a ≠ b) : ∀ l : List (α × β), mget b (mdelT a l) = mget b l
  | [] => rfl
  | (x, y) :: l => by
    simp only [mdelT]
    by_cases e : a = x
    · subst e; rw [if_pos rfl]; simp only [mget, if_neg h.symm]
    · rw [if_neg e]; simp only [mget, mget_delT h l]
theorem mget_putT {a b : α} {v : β} (h : a ≠ b) : ∀ l : List (α × β), mget b (mput a v l) = mget b l
  | [] => by simp [mput, mget, h.symm]
  | (x, y) :: l => by
    simp only [mput]
    by_cases e : a = x
    · subst e; rw [if_pos rfl]; simp only [mget, if_neg h.symm]
    · rw [if_neg e]; simp only [mget, mget_putT h l]
end plain
section
variable {P : Program} {n : Nat} {L : Env} {X : World → Prop} {o : Oper} {Q : Exit → Act → World → Prop} {K : Act → World → Prop}
variable {w0 : World} {D : List Nat} {H : List Ent} {α β : Type} [DecidableEq α] {kf : α → Value} {vf : β → Value}
theorem keyOk_int {kt : TypeId} (k : IntKind) (hu : P.underlying kt = some (.int k)) : KeyOk P kt (Value.int k) := by
  refine ⟨fun em w a => run_checkKey hu (show IsKey (.int k) (.int k a) from rfl) em 9999, fun w a es β vf l h => run_findKey hu ?_, fun a => ?_⟩
  · suffices ∀ (es : List MapEntry) (l : List (Int × β)) (i : Nat), es.map (fun e => (e.key, e.val)) = l.map (fun p => (Value.int k p.1, vf p.2)) → Instr.findNow (.int k) (.int k a) es i = some ((mfind a l i).map (fun p => (p.1, vf p.2))) from this es l 0 h
    intro es
    induction es with
    | nil => intro l i h; cases l with
      | nil => rfl
      | cons p l => cases h
    | cons e es ih =>
      intro l i h
      cases l with
      | nil => cases h
      | cons p l =>
        obtain ⟨x, y⟩ := p
        simp only [List.map_cons, List.cons.injEq, Prod.mk.injEq] at h
        obtain ⟨⟨h1, h2⟩, h3⟩ := h
        have hs : Instr.sameNow (.int k) (.int k a) e.key = some (decide (a = x)) := by
          rw [h1]
          show (if k = k then some (a == x) else none) = _
          rw [if_pos rfl]
          congr 1
        simp only [Instr.findNow, hs, mfind]
        by_cases hax : a = x
        · simp [hax, h2]
        · simp only [hax, decide_false, if_false]
          exact ih l (i + 1) h3
  · show (k == k && a == a) = true
    simp
def Stamped (m : Array MapEntry) (c : Nat) : Prop := (∀ x ∈ m.toList, x.born < c) ∧ (m.toList.map (·.born)).Nodup
def mapT (b : Nat) (kf : α → Value) (vf : β → Value) (l : List (α × β)) : Ent := ⟨some b, fun o => ∃ m c, o = some (.map m c) ∧ m.toList.map (fun e => (e.key, e.val)) = l.map (fun p => (kf p.1, vf p.2)) ∧ Stamped m c⟩
omit [DecidableEq α] in
theorem mapT_map {b : Nat} {l : List (α × β)} {w : World} (h : (mapT b kf vf l).at w) : (mapE b kf vf l).at w := by
  obtain ⟨m, c, h1, h2, _⟩ := h; exact ⟨m, c, h1, h2⟩
omit [DecidableEq α] in
theorem mapT_obj {b : Nat} {l : List (α × β)} {w : World} (h : (mapT b kf vf l).at w) : ∃ m c, w.heap[b]? = some (.map m c) ∧ m.toList.map (fun e => (e.key, e.val)) = l.map (fun p => (kf p.1, vf p.2)) ∧ Stamped m c := h
omit [DecidableEq α] in
theorem e_makeMapT {t : TypeId} {d : Nat} (kf : α → Value) (vf : β → Value) (ho : o.op = .makeMap t none) (hd : o.dst = some d) (hn : d.blt n = true) (h : ∀ b, Pre n ((d, .map (some b)) :: L) (St w0 D (mapT b kf vf [] :: H)) K) : EOp P n L (St w0 D H) o Q K :=
  EOp.val (β := Nat) (fun b => .map (some b)) (fun _ => True) (fun b => St w0 D (mapT b kf vf [] :: H)) hd hn (fun a w k x =>
    ⟨w.heap.size, w.alloc (.map #[] 0), by simp [execOp, ho, Instr.makeMap, newObj]; rfl, trivial, x.alloc ⟨#[], 0, rfl, rfl, by intro x hx; simp at hx, List.nodup_nil⟩⟩) (fun b _ => h b)
omit [DecidableEq α] in
theorem stamped_push {m : Array MapEntry} {c : Nat} {k v : Value} (h : Stamped m c) : Stamped (m.push { key := k, val := v, born := c }) (c + 1) := by
  refine ⟨fun x hx => ?_, ?_⟩
  · rw [Array.toList_push] at hx
    rcases List.mem_append.1 hx with hx | hx
    · have := h.1 x hx; omega
    · simp only [List.mem_singleton] at hx; subst hx; exact Nat.lt_succ_self _
  · rw [Array.toList_push, List.map_append, List.nodup_append]
    refine ⟨h.2, by simp, fun a ha b hb e => ?_⟩
    obtain ⟨x, hx, rfl⟩ := List.mem_map.1 ha
    simp only [List.map_cons, List.map_nil, List.mem_singleton] at hb
    have := h.1 x hx
    omega
omit [DecidableEq α] in
theorem born_modify (m : Array MapEntry) (i : Nat) (k v : Value) : (m.modify i fun e => { e with key := k, val := v }).toList.map (·.born) = m.toList.map (·.born) := by
  refine List.ext_getElem? (fun j => ?_)
  simp only [List.getElem?_map, Array.getElem?_toList, Array.getElem?_modify]
  split
  · rename_i hij; subst hij; cases m[i]? <;> rfl
  · rfl
omit [DecidableEq α] in
theorem stamped_modify {m : Array MapEntry} {c i : Nat} {k v : Value} (h : Stamped m c) : Stamped (m.modify i fun e => { e with key := k, val := v }) c := by
  have hb := born_modify m i k v
  refine ⟨fun x hx => ?_, by rw [hb]; exact h.2⟩
  have : x.born ∈ m.toList.map (·.born) := by rw [← hb]; exact List.mem_map.2 ⟨x, hx, rfl⟩
  obtain ⟨y, hy, e⟩ := List.mem_map.1 this
  rw [← e]; exact h.1 y hy
omit [DecidableEq α] in
theorem stamped_erase {m : Array MapEntry} {c i : Nat} (h : Stamped m c) (hi : i < m.size) : Stamped (m.eraseIdxIfInBounds i) c := by
  have he : (m.eraseIdxIfInBounds i).toList = m.toList.eraseIdx i := by
    unfold Array.eraseIdxIfInBounds
    rw [dif_pos hi]; simp
  have hs : (m.toList.eraseIdx i).Sublist m.toList := List.eraseIdx_sublist ..
  exact ⟨fun x hx => h.1 x (hs.subset (by rw [he] at hx; exact hx)), by rw [he]; exact h.2.sublist (hs.map _)⟩
theorem run_putT {t kt vt : TypeId} {b : Nat} {l : List (α × β)} {w : World} (a : α) (v : β) (ht : P.underlying t = some (.map kt vt)) (hK : KeyOk P kt kf) (h : St w0 D (mapT b kf vf l :: H) w) :
    ∃ w', (Instr.mapUpdate t (.map (some b)) (kf a) (vf v)).run P w = .ok () w' ∧ St w0 D (mapT b kf vf (mput a v l) :: H) w' := by
  obtain ⟨m, c, hm, hl, hT⟩ := mapT_obj (h.at 0 rfl)
  have hlt : b < w.heap.size := (Array.getElem?_eq_some_iff.1 hm).1
  have hg : (getObj b).run P w = .ok (.map m c) w := by simp [getObj, Sem.run, hm]
  have hs : ∀ m' c', (setObj b (.map m' c')).run P w = .ok () { w with heap := w.heap.setIfInBounds b (.map m' c') } := fun m' c' => by simp [setObj, Sem.run, hm]
  have hst : ∀ (m' : Array MapEntry) (c' : Nat) (l' : List (α × β)), m'.toList.map (fun e => (e.key, e.val)) = l'.map (fun p => (kf p.1, vf p.2)) → Stamped m' c' → St w0 D (mapT b kf vf l' :: H) { w with heap := w.heap.setIfInBounds b (.map m' c') } := fun m' c' l' hl' hT' =>
    h.write rfl rfl rfl (by simp) (fun k hk => by simp [Array.getElem?_setIfInBounds, Ne.symm hk]) ⟨m', c', by simp [Array.getElem?_setIfInBounds, hlt], hl', hT'⟩
  have hf := hK.find w a m.toList β vf l hl
  unfold Instr.mapUpdate
  cases hfi : mfind a l 0 with
  | none =>
    rw [hfi] at hf
    simp only [Option.map_none] at hf
    refine ⟨_, by simp [run_und ht, hg, hK.ck, hf, hs], hst (m.push { key := kf a, val := vf v, born := c }) (c + 1) (mput a v l) ?_ (stamped_push hT)⟩
    rw [mfind_none hfi]
    simp [hl]
  | some p =>
    obtain ⟨i, y⟩ := p
    rw [hfi] at hf
    simp only [Option.map_some] at hf
    obtain ⟨_, h2, h3⟩ := mfind_some (v := v) hfi
    simp only [Nat.sub_zero] at h2 h3
    have hi : i < m.size := by
      have h5 := (List.getElem?_eq_some_iff.1 h2).1
      have := congrArg List.length hl
      simp at this; omega
    have hk : (m[i]?.map (·.key)).getD (kf a) = kf a := by
      have h6 : (m.toList.map (fun e => (e.key, e.val)))[i]? = some (kf a, vf y) := by rw [hl]; simp [h2]
      simp only [List.getElem?_map, Array.getElem?_toList, Option.map_eq_some_iff] at h6
      obtain ⟨e, he, h7⟩ := h6
      rw [he]
      simp only [Option.map_some, Option.getD_some]
      exact congrArg Prod.fst h7
    have hks : (Instr.keyThatStays (kf a) (kf a)).run P w = .ok (kf a) w := by unfold Instr.keyThatStays; rw [if_pos (hK.same a)]; rfl
    refine ⟨_, by simp [run_und ht, hg, hK.ck, hf, hk, hks, hs], hst (m.modify i fun e => { e with key := kf a, val := vf v }) c (mput a v l) ?_ (stamped_modify hT)⟩
    rw [h3]
    refine List.ext_getElem? (fun j => ?_)
    have hlj : (m.toList.map (fun e => (e.key, e.val)))[j]? = (l.map (fun p => (kf p.1, vf p.2)))[j]? := by rw [hl]
    simp only [List.getElem?_map, Array.getElem?_toList] at hlj
    simp only [List.getElem?_map, Array.getElem?_toList, Array.getElem?_modify, List.getElem?_set]
    by_cases hij : i = j
    · subst hij
      have h5 := (List.getElem?_eq_some_iff.1 h2).1
      simp [hi, h5]
    · simp only [if_neg hij]
      exact hlj
theorem e_putT {t kt vt : TypeId} {x k y : Operand} {b : Nat} {l : List (α × β)} (a : α) (v : β) (ho : o.op = .mapUpdate t x k y) (hd : o.dst = none) (ht : P.underlying t = some (.map kt vt)) (hK : KeyOk P kt kf)
    (hx : ev L x = some (.map (some b))) (hk : ev L k = some (kf a)) (hy : ev L y = some (vf v)) (h : Pre n L (St w0 D (mapT b kf vf (mput a v l) :: H)) K) : EOp P n L (St w0 D (mapT b kf vf l :: H)) o Q K :=
  EOp.skip _ hd (fun ac w kn hX => by
    obtain ⟨w', hr, h'⟩ := run_putT (P := P) a v ht hK hX
    exact ⟨w', by simp [execOp, ho, kn.eval hx, kn.eval hk, kn.eval hy, hr], h'⟩) h
theorem run_deleteT {t kt vt t2 ty : TypeId} {b : Nat} {l : List (α × β)} {w : World} (a : α) (ht : P.underlying t = some (.map kt vt)) (hK : KeyOk P kt kf) (h : St w0 D (mapT b kf vf l :: H) w) :
    ∃ w', (Builtin.delete_ #[t, t2] ty #[.map (some b), kf a]).run P w = .ok (.tuple #[]) w' ∧ St w0 D (mapT b kf vf (mdelT a l) :: H) w' := by
  obtain ⟨m, c, hm, hl, hT⟩ := mapT_obj (h.at 0 rfl)
  have hlt : b < w.heap.size := (Array.getElem?_eq_some_iff.1 hm).1
  have hg : (getObj b).run P w = .ok (.map m c) w := by simp [getObj, Sem.run, hm]
  have hs : ∀ m' c', (setObj b (.map m' c')).run P w = .ok () { w with heap := w.heap.setIfInBounds b (.map m' c') } := fun m' c' => by simp [setObj, Sem.run, hm]
  have hst : ∀ (m' : Array MapEntry) (c' : Nat) (l' : List (α × β)), m'.toList.map (fun e => (e.key, e.val)) = l'.map (fun p => (kf p.1, vf p.2)) → Stamped m' c' → St w0 D (mapT b kf vf l' :: H) { w with heap := w.heap.setIfInBounds b (.map m' c') } := fun m' c' l' hl' hT' =>
    h.write rfl rfl rfl (by simp) (fun k hk => by simp [Array.getElem?_setIfInBounds, Ne.symm hk]) ⟨m', c', by simp [Array.getElem?_setIfInBounds, hlt], hl', hT'⟩
  have hf := hK.find w a m.toList β vf l hl
  unfold Builtin.delete_
  cases hfi : mfind a l 0 with
  | none =>
    rw [hfi] at hf
    simp only [Option.map_none] at hf
    refine ⟨_, by simp [run_und ht, hg, hK.ck, hf, hs], hst m c (mdelT a l) ?_ hT⟩
    rw [mdelT_none hfi]; exact hl
  | some p =>
    obtain ⟨i, y⟩ := p
    rw [hfi] at hf
    simp only [Option.map_some] at hf
    obtain ⟨_, h2⟩ := mdelT_some hfi
    rw [Nat.sub_zero] at h2
    have hml : m.size = l.length := by have := congrArg List.length hl; simpa using this
    have hi : i < m.size := by
      obtain ⟨_, h5, _⟩ := mfind_some (v := y) hfi
      have := (List.getElem?_eq_some_iff.1 h5).1
      omega
    refine ⟨_, by simp [run_und ht, hg, hK.ck, hf, hs], hst (m.eraseIdxIfInBounds i) c (mdelT a l) ?_ (stamped_erase hT hi)⟩
    rw [h2]
    have he : (m.eraseIdxIfInBounds i).toList = m.toList.eraseIdx i := by
      unfold Array.eraseIdxIfInBounds
      rw [dif_pos hi]; simp
    rw [he, eraseIdx_map', hl, eraseIdx_map']
theorem e_deleteT {t kt vt t2 : TypeId} {x k : Operand} {b : Nat} {l : List (α × β)} (a : α) (ho : o.op = .call ⟨.builtin .delete, #[x, k], #[t, t2]⟩) (hd : o.dst = none) (ht : P.underlying t = some (.map kt vt)) (hK : KeyOk P kt kf)
    (hx : ev L x = some (.map (some b))) (hk : ev L k = some (kf a)) (h : Pre n L (St w0 D (mapT b kf vf (mdelT a l) :: H)) K) : EOp P n L (St w0 D (mapT b kf vf l :: H)) o Q K :=
  EOp.val0 (β := Unit) (fun _ => .tuple #[]) (fun _ => True) (fun _ => St w0 D (mapT b kf vf (mdelT a l) :: H)) hd (fun ac w kn hX => by
    obtain ⟨w', hr, h'⟩ := run_deleteT (P := P) (t2 := t2) (ty := o.type) a ht hK hX
    exact ⟨(), w', by simp [execOp, ho, resolve, invoke, builtin, kn.eval hx, kn.eval hk, hr], trivial, h'⟩) (fun _ _ => h)
theorem q_lookupOk {t kt vt : TypeId} {x k : Operand} {b : Nat} {l : List (α × β)} (a : α) {z : Value} (ho : o.op = .lookup t x k true) (ht : P.underlying t = some (.map kt vt)) (hK : KeyOk P kt kf) (hz : ∀ w, (zeroValue vt).run P w = .ok z w)
    (hx : ev L x = some (.map (some b))) (hk : ev L k = some (kf a)) (hr : ∀ w, X w → (mapT b kf vf l).at w) : QOp P n L X o (.tuple #[match mget a l with | some y => vf y | none => z, .bool (mget a l).isSome]) := fun ac w kn hX => by
  have := run_lookup (P := P) a ht hK hz (mapT_map (hr w hX)) true
  simp only [if_true] at this
  simp [execOp, ho, kn.eval hx, kn.eval hk, this]
  try rfl
theorem q_lookupT {t kt vt : TypeId} {x k : Operand} {b : Nat} {l : List (α × β)} (a : α) {z : Value} (ho : o.op = .lookup t x k false) (ht : P.underlying t = some (.map kt vt)) (hK : KeyOk P kt kf) (hz : ∀ w, (zeroValue vt).run P w = .ok z w)
    (hx : ev L x = some (.map (some b))) (hk : ev L k = some (kf a)) (hr : ∀ w, X w → (mapT b kf vf l).at w) : QOp P n L X o (match mget a l with | some y => vf y | none => z) := fun ac w kn hX => by
  have := run_lookup (P := P) a ht hK hz (mapT_map (hr w hX)) false
  simp only [Bool.false_eq_true, if_false] at this
  simp [execOp, ho, kn.eval hx, kn.eval hk, this]
  try rfl
def mapX (b : Nat) (m : Array MapEntry) (c : Nat) (w : World) : Prop := w.heap[b]? = some (.map m c)
def itE (r b c : Nat) (seen : Array Nat) : Ent := ⟨some r, fun o => o = some (.mapIter (some b) c seen c)⟩
omit [DecidableEq α] in
theorem mapX_keep {b : Nat} {m : Array MapEntry} {c : Nat} {w : World} (h : mapX b m c w0) (s : St w0 D H w) (hD : b ∉ D) : mapX b m c w := (s.keep.block b (Array.getElem?_eq_some_iff.1 h).1 hD).trans h
omit [DecidableEq α] in
theorem e_range {t kt vt : TypeId} {x : Operand} {d b c : Nat} {m : Array MapEntry} (ho : o.op = .range t x) (hd : o.dst = some d) (hn : d.blt n = true) (ht : P.underlying t = some (.map kt vt)) (hx : ev L x = some (.map (some b))) (hr : ∀ w, St w0 D H w → mapX b m c w)
    (h : ∀ r, Pre n ((d, .pointer (some ⟨r, 0, none⟩)) :: L) (St w0 D (itE r b c #[] :: H)) K) : EOp P n L (St w0 D H) o Q K :=
  EOp.val (β := Nat) (fun r => .pointer (some ⟨r, 0, none⟩)) (fun _ => True) (fun r => St w0 D (itE r b c #[] :: H)) hd hn (fun a w k s =>
    ⟨w.heap.size, _, by simp [execOp, ho, k.eval hx, run_range_map w t kt vt b m c ht (hr w s)], trivial, s.alloc rfl⟩) (fun r _ => h r)
omit [DecidableEq α] in
theorem e_next {x : Operand} {d r b c : Nat} {m : Array MapEntry} {seen : Array Nat} (ho : o.op = .next x false) (hd : o.dst = some d) (hn : d.blt n = true) (hx : ev L x = some (.pointer (some ⟨r, 0, none⟩))) (hT : ∀ x ∈ m.toList, x.born < c)
    (hr : ∀ w, St w0 D (itE r b c seen :: H) w → mapX b m c w)
    (h1 : (leftOf m seen).size = 0 → Pre n ((d, .tuple #[.bool false]) :: L) (St w0 D (itE r b c seen :: H)) K)
    (h2 : ∀ e, e ∈ (leftOf m seen).toList → Pre n ((d, .tuple #[.bool true, e.key, e.val]) :: L) (St w0 D (itE r b c (seen.push e.born) :: H)) K) : EOp P n L (St w0 D (itE r b c seen :: H)) o Q K :=
  EOp.val (β := Option MapEntry) (fun y => match y with | none => .tuple #[.bool false] | some e => .tuple #[.bool true, e.key, e.val]) (fun y => match y with | none => (leftOf m seen).size = 0 | some e => e ∈ (leftOf m seen).toList)
    (fun y => match y with | none => St w0 D (itE r b c seen :: H) | some e => St w0 D (itE r b c (seen.push e.born) :: H)) hd hn (fun a w k s => by
    have hit : w.heap[r]? = some (.mapIter (some b) c seen c) := s.at 0 rfl
    rcases run_next_at (P := P) w o.type r b c c seen m c hit (hr w s) hT (Nat.le_refl _) with ⟨h0, hrun⟩ | ⟨e, he, w1, hw1, hrun⟩
    · exact ⟨none, w, by simp [execOp, ho, k.eval hx, hrun], h0, s⟩
    · refine ⟨some e, ChangeMaps.setBlock w1 r (.mapIter (some b) c (seen.push e.born) c), by simp [execOp, ho, k.eval hx, hrun], he, ?_⟩
      have s1 : St w0 D (itE r b c seen :: H) w1 := by
        rcases hw1 with rfl | rfl
        · exact s
        · exact s.drew
      have hlt : r < w1.heap.size := by
        have : w1.heap[r]? = some (.mapIter (some b) c seen c) := s1.at 0 rfl
        exact (Array.getElem?_eq_some_iff.1 this).1
      exact s1.write rfl rfl rfl (by simp [ChangeMaps.setBlock]) (fun k hk => by simp [ChangeMaps.setBlock, Array.getElem?_setIfInBounds, Ne.symm hk]) (by simp [ChangeMaps.setBlock, Array.getElem?_setIfInBounds, hlt])) (fun y hy => by
    cases y with
    | none => exact h1 hy
    | some e => exact h2 e hy)
omit [DecidableEq α] in
theorem q_entry {x : Operand} {r b c : Nat} {m : Array MapEntry} {seen : Array Nat} {e : MapEntry} (ho : o.op = .entry x) (hx : ev L x = some (.pointer (some ⟨r, 0, none⟩))) (hn : (m.toList.map (·.born)).Nodup) (he : e ∈ m.toList)
    (hr : ∀ w, X w → mapX b m c w) (hi : ∀ w, X w → (itE r b c (seen.push e.born)).at w) : QOp P n L X o (.tuple #[e.key, e.val]) := fun a w k hX => by
  have := run_entry_at (P := P) w r b c seen m c e (hi w hX) (hr w hX) he hn
  simp [execOp, ho, k.eval hx, this]
def leftN (m : Array MapEntry) (seen : Array Nat) : Nat := (m.toList.filter (fun e => !seen.contains e.born)).length
omit [DecidableEq α] in
theorem left_mem {m : Array MapEntry} {seen : Array Nat} {e : MapEntry} (h : e ∈ (leftOf m seen).toList) : e ∈ m.toList ∧ seen.contains e.born = false := by
  unfold leftOf at h
  rw [Array.toList_filter] at h
  obtain ⟨h1, h2⟩ := List.mem_filter.1 h
  exact ⟨h1, by simpa using h2⟩
omit [DecidableEq α] in
theorem left_less {m : Array MapEntry} {seen : Array Nat} {e : MapEntry} (h : e ∈ (leftOf m seen).toList) : leftN m (seen.push e.born) < leftN m seen := by
  obtain ⟨h1, h2⟩ := left_mem h
  unfold leftN
  have h3 : ¬ e.born ∈ seen := by simpa using h2
  refine filter_lt _ _ (fun x hx => ?_) e (by simp [h3]) (by simp) m.toList h1
  simp only [Array.contains_push, Bool.not_or, Bool.and_eq_true] at hx
  simp_all
omit [DecidableEq α] in
theorem left_none {m : Array MapEntry} {seen : Array Nat} (h : (leftOf m seen).size = 0) : ∀ e ∈ m.toList, seen.contains e.born = true := by
  intro e he
  cases hc : seen.contains e.born with
  | true => rfl
  | false =>
    have : e ∈ (leftOf m seen).toList := by
      unfold leftOf; rw [Array.toList_filter]; exact List.mem_filter.2 ⟨he, by simpa using hc⟩
    have h0 : (leftOf m seen).toList.length = 0 := by simpa using h
    rw [List.eq_nil_of_length_eq_zero h0] at this
    cases this
theorem Ent.keep {e : Ent} {w : World} {b : Nat} (h : e.at w0) (s : St w0 D H w) (hb : e.b = some b) (hlt : b < w0.heap.size) (hD : b ∉ D) : e.at w := Ent.at_congr (fun k hk => by rw [hb] at hk; cases hk; exact s.keep.block b hlt hD) h
omit [DecidableEq α] in
theorem cellsE_keep {b : Nat} {t : TypeId} {cs : List Value} {w : World} (h : (cellsE b t cs).at w0) (s : St w0 D H w) (hD : b ∉ D) : (cellsE b t cs).at w := by
  have h' : w0.heap[b]? = some (.cells cs.toArray t (0, 0)) := h
  exact Ent.keep h s rfl (Array.getElem?_eq_some_iff.1 h').1 hD
omit [DecidableEq α] in
theorem mapT_keep {b : Nat} {l : List (α × β)} {w : World} (h : (mapT b kf vf l).at w0) (s : St w0 D H w) (hD : b ∉ D) : (mapT b kf vf l).at w := by
  obtain ⟨m, c, h1, _⟩ := mapT_obj h
  exact Ent.keep h s rfl (Array.getElem?_eq_some_iff.1 h1).1 hD
end
end Go.Sep
namespace Go.Proofs.YtloldofjddbjoaaGreat
open Go.Sep Go.RowKit Tryz
section
variable {n : Nat} {L : Env} {w0 : World} {D : List Nat} {H : List Ent} {F : Act → World → Prop}
theorem pull7 {z a0 a1 a2 a3 a4 a5 a6 : Ent} (k : Pre n L (St w0 D (z :: a0 :: a1 :: a2 :: a3 :: a4 :: a5 :: a6 :: H)) F) : Pre n L (St w0 D (a0 :: a1 :: a2 :: a3 :: a4 :: a5 :: a6 :: z :: H)) F := k.world _ (fun w s => s.perm (List.perm_middle (l₁ := [a0, a1, a2, a3, a4, a5, a6]) (l₂ := H)))
theorem pull8 {z a0 a1 a2 a3 a4 a5 a6 a7 : Ent} (k : Pre n L (St w0 D (z :: a0 :: a1 :: a2 :: a3 :: a4 :: a5 :: a6 :: a7 :: H)) F) : Pre n L (St w0 D (a0 :: a1 :: a2 :: a3 :: a4 :: a5 :: a6 :: a7 :: z :: H)) F := k.world _ (fun w s => s.perm (List.perm_middle (l₁ := [a0, a1, a2, a3, a4, a5, a6, a7]) (l₂ := H)))
theorem pull9 {z a0 a1 a2 a3 a4 a5 a6 a7 a8 : Ent} (k : Pre n L (St w0 D (z :: a0 :: a1 :: a2 :: a3 :: a4 :: a5 :: a6 :: a7 :: a8 :: H)) F) : Pre n L (St w0 D (a0 :: a1 :: a2 :: a3 :: a4 :: a5 :: a6 :: a7 :: a8 :: z :: H)) F := k.world _ (fun w s => s.perm (List.perm_middle (l₁ := [a0, a1, a2, a3, a4, a5, a6, a7, a8]) (l₂ := H)))
theorem pull10 {z a0 a1 a2 a3 a4 a5 a6 a7 a8 a9 : Ent} (k : Pre n L (St w0 D (z :: a0 :: a1 :: a2 :: a3 :: a4 :: a5 :: a6 :: a7 :: a8 :: a9 :: H)) F) : Pre n L (St w0 D (a0 :: a1 :: a2 :: a3 :: a4 :: a5 :: a6 :: a7 :: a8 :: a9 :: z :: H)) F := k.world _ (fun w s => s.perm (List.perm_middle (l₁ := [a0, a1, a2, a3, a4, a5, a6, a7, a8, a9]) (l₂ := H)))
theorem pull11 {z a0 a1 a2 a3 a4 a5 a6 a7 a8 a9 a10 : Ent} (k : Pre n L (St w0 D (z :: a0 :: a1 :: a2 :: a3 :: a4 :: a5 :: a6 :: a7 :: a8 :: a9 :: a10 :: H)) F) : Pre n L (St w0 D (a0 :: a1 :: a2 :: a3 :: a4 :: a5 :: a6 :: a7 :: a8 :: a9 :: a10 :: z :: H)) F := k.world _ (fun w s => s.perm (List.perm_middle (l₁ := [a0, a1, a2, a3, a4, a5, a6, a7, a8, a9, a10]) (l₂ := H)))
theorem pull12 {z a0 a1 a2 a3 a4 a5 a6 a7 a8 a9 a10 a11 : Ent} (k : Pre n L (St w0 D (z :: a0 :: a1 :: a2 :: a3 :: a4 :: a5 :: a6 :: a7 :: a8 :: a9 :: a10 :: a11 :: H)) F) : Pre n L (St w0 D (a0 :: a1 :: a2 :: a3 :: a4 :: a5 :: a6 :: a7 :: a8 :: a9 :: a10 :: a11 :: z :: H)) F := k.world _ (fun w s => s.perm (List.perm_middle (l₁ := [a0, a1, a2, a3, a4, a5, a6, a7, a8, a9, a10, a11]) (l₂ := H)))
theorem pull13 {z a0 a1 a2 a3 a4 a5 a6 a7 a8 a9 a10 a11 a12 : Ent} (k : Pre n L (St w0 D (z :: a0 :: a1 :: a2 :: a3 :: a4 :: a5 :: a6 :: a7 :: a8 :: a9 :: a10 :: a11 :: a12 :: H)) F) : Pre n L (St w0 D (a0 :: a1 :: a2 :: a3 :: a4 :: a5 :: a6 :: a7 :: a8 :: a9 :: a10 :: a11 :: a12 :: z :: H)) F := k.world _ (fun w s => s.perm (List.perm_middle (l₁ := [a0, a1, a2, a3, a4, a5, a6, a7, a8, a9, a10, a11, a12]) (l₂ := H)))
theorem pull14 {z a0 a1 a2 a3 a4 a5 a6 a7 a8 a9 a10 a11 a12 a13 : Ent} (k : Pre n L (St w0 D (z :: a0 :: a1 :: a2 :: a3 :: a4 :: a5 :: a6 :: a7 :: a8 :: a9 :: a10 :: a11 :: a12 :: a13 :: H)) F) : Pre n L (St w0 D (a0 :: a1 :: a2 :: a3 :: a4 :: a5 :: a6 :: a7 :: a8 :: a9 :: a10 :: a11 :: a12 :: a13 :: z :: H)) F := k.world _ (fun w s => s.perm (List.perm_middle (l₁ := [a0, a1, a2, a3, a4, a5, a6, a7, a8, a9, a10, a11, a12, a13]) (l₂ := H)))
theorem pull16 {z a0 a1 a2 a3 a4 a5 a6 a7 a8 a9 a10 a11 a12 a13 a14 a15 : Ent} (k : Pre n L (St w0 D (z :: a0 :: a1 :: a2 :: a3 :: a4 :: a5 :: a6 :: a7 :: a8 :: a9 :: a10 :: a11 :: a12 :: a13 :: a14 :: a15 :: H)) F) : Pre n L (St w0 D (a0 :: a1 :: a2 :: a3 :: a4 :: a5 :: a6 :: a7 :: a8 :: a9 :: a10 :: a11 :: a12 :: a13 :: a14 :: a15 :: z :: H)) F := k.world _ (fun w s => s.perm (List.perm_middle (l₁ := [a0, a1, a2, a3, a4, a5, a6, a7, a8, a9, a10, a11, a12, a13, a14, a15]) (l₂ := H)))
end
def kv0 (m : Nat) : Kv m := ⟨0, List.replicate m 0, by simp, by decide, fun x h => by rw [(List.mem_replicate.1 h).2]; decide⟩
theorem wf_n8 {k : Nat} (h : k ≤ 65536) : (Lit.int .i64 (k : Int)).wf = true := by
  simp only [Lit.wf, Bool.and_eq_true, decide_eq_true_eq]
  exact ⟨by show (-2 ^ 63 : Int) ≤ _; omega, by show _ ≤ (2 ^ 63 - 1 : Int); omega⟩
theorem flat_u8 (l : List Int) : (encI .u8).flat l = l.map (.int .u8) := flat_one' (encI .u8) (Value.int .u8) (fun _ => rfl) l
theorem kv_get {m : Nat} (k : Kv m) {j : Nat} (h : j < m) : k.c[1 + j]? = some (.int .u8 (k.b.getD j 0)) := by
  rw [Nat.add_comm]
  have hj : j < k.b.length := by rw [k.len]; exact h
  simp [Kv.c, List.getD_eq_getElem?_getD, hj]
def kck (k : Kv 8) : Bool := decide (0 ≤ k.n ∧ k.n ≤ 8 ∧ ∀ i : Nat, i < 8 → k.n ≤ (i : Int) → k.b.getD i 0 = 0)
theorem kck_lo {k : Kv 8} (h : k.n < 0) : kck k = false := decide_eq_false (fun x => by omega)
theorem kck_hi {k : Kv 8} (h : 8 < k.n) : kck k = false := decide_eq_false (fun x => by omega)
theorem kck_yes {k : Kv 8} {m : Nat} (hm : k.n = (m : Int)) (h8 : m ≤ 8) (hz : ∀ j, m ≤ j → j < 8 → k.b.getD j 0 = 0) : kck k = true := decide_eq_true ⟨by omega, by omega, fun i h1 h2 => hz i (by omega) h1⟩
theorem kv_whole {m : Nat} (k : Kv m) : (k.c.drop 0).take (m + 1) = k.c := List.take_of_length_le (by rw [List.drop_zero, Kv.c_len]; exact Nat.le_refl _)
def kcut (k : Kv 8) (n : Nat) (h : n ≤ 8) : Kv 8 := ⟨n, k.b.take n ++ List.replicate (8 - n) 0, by simp [k.len]; omega, wf_n8 (by omega), fun x hx => by
  rcases List.mem_append.1 hx with hx | hx
  · exact k.wb x (List.mem_of_mem_take hx)
  · rw [(List.mem_replicate.1 hx).2]; decide⟩
theorem kcut_eq (k : Kv 8) {n : Nat} (hn : k.n = (n : Int)) (h : n ≤ 8) : decide (kcut k n h = k) = kck k := by
  unfold kck
  rw [decide_eq_decide]
  have hlen : (k.b.take n ++ List.replicate (8 - n) 0).length = 8 := by simp [k.len]; omega
  constructor
  · intro e
    refine ⟨by omega, by omega, fun i hi hni => ?_⟩
    have hb : k.b = k.b.take n ++ List.replicate (8 - n) 0 := (congrArg Kv.b e).symm
    rw [hb, List.getD_eq_getElem?_getD, List.getElem?_append_right (by simp; omega), List.getElem?_replicate]
    split <;> rfl
  · rintro ⟨_, _, hz⟩
    have hl : k.b.take n ++ List.replicate (8 - n) 0 = k.b := List.ext_getElem (by rw [k.len]; exact hlen) (fun i h1 h2 => by
      have hi : i < 8 := by rw [← k.len]; exact h2
      rcases Nat.lt_or_ge i n with hin | hin
      · rw [List.getElem_append_left (by simp; omega), List.getElem_take]
      · rw [List.getElem_append_right (by simp; omega), List.getElem_replicate]
        have := hz i hi (by omega)
        rw [List.getD_eq_getElem?_getD, List.getElem?_eq_getElem h2] at this
        exact this.symm)
    exact Kv.ext' hn.symm hl
def kz (m : Nat) (n : Int) (h : (Lit.int .i64 n).wf = true) : Kv m := ⟨n, List.replicate m 0, by simp, h, fun x h => by rw [(List.mem_replicate.1 h).2]; decide⟩
theorem kcopy (k : Kv 8) {n : Nat} (h : n ≤ 8) : Sep.splice (.int .i64 (n : Int) :: List.replicate 8 (.int .u8 0)) 1 ((encI .u8).flat (k.b.take (min k.b.length n))) = (kcut k n h).c := by
  have hm : min k.b.length n = n := by rw [k.len]; omega
  have hl : (k.b.take n).length = n := by simp [k.len]; omega
  rw [hm, flat_u8, Sep.splice_eq _ _ _ (by simp [k.len]; omega)]
  simp only [List.length_map, hl, Kv.c, kcut, List.map_append, List.map_replicate]
  rw [Nat.add_comm 1 n, List.take_succ_cons, List.take_zero, List.drop_succ_cons, List.drop_replicate]
  rfl
theorem byt_len (s : ByteArray) : (byt s).length = s.size := by unfold byt; rw [List.length_map, Array.length_toList]; rfl
def Byte (x : Int) : Prop := 0 ≤ x ∧ x ≤ 255
theorem byt_byte {s : ByteArray} {x : Int} (h : x ∈ byt s) : Byte x := by
  obtain ⟨b, _, rfl⟩ := List.mem_map.1 h
  have := b.toNat_lt
  exact ⟨by omega, by omega⟩
theorem wf_byte {x : Int} (h : Byte x) : (Lit.int .u8 x).wf = true := by
  simp only [Lit.wf, Bool.and_eq_true, decide_eq_true_eq]; exact h
theorem byte_wf {x : Int} (h : (Lit.int .u8 x).wf = true) : Byte x := Sep.wf_u8 h
def kmk (t : List Int) (hl : t.length ≤ 8) (hb : ∀ x ∈ t, Byte x) : Kv 8 := ⟨t.length, t ++ List.replicate (8 - t.length) 0, by simp; omega, wf_n8 (by omega), fun x hx => by
  rcases List.mem_append.1 hx with hx | hx
  · exact wf_byte (hb x hx)
  · rw [(List.mem_replicate.1 hx).2]; decide⟩
theorem kmk_ck (t : List Int) (hl : t.length ≤ 8) (hb : ∀ x ∈ t, Byte x) : kck (kmk t hl hb) = true := by
  refine kck_yes (m := t.length) I hl (fun j h1 h2 => ?_)
  show (t ++ List.replicate (8 - t.length) 0).getD j 0 = 0
  rw [List.getD_eq_getElem?_getD, List.getElem?_append_right h1, List.getElem?_replicate]
  split <;> rfl
def kof (s : ByteArray) (h : s.size ≤ 8) : Kv 8 := kmk (byt s) (by rw [byt_len]; exact h) (fun x hx => byt_byte hx)
def tx (k : Kv 8) : List Int := if kck k then k.b.take k.n.toNat else []
theorem kck_parts {k : Kv 8} (h : kck k = true) : ∃ m : Nat, k.n = (m : Int) ∧ m ≤ 8 ∧ tx k = k.b.take m ∧ (tx k).length = m ∧ k.b = tx k ++ List.replicate (8 - m) 0 := by
  have h0 := h
  unfold kck at h
  obtain ⟨h1, h2, h3⟩ := of_decide_eq_true h
  refine ⟨k.n.toNat, by omega, by omega, by unfold tx; rw [h0]; rfl, by unfold tx; rw [h0]; simp [k.len]; omega, ?_⟩
  have ht : tx k = k.b.take k.n.toNat := by unfold tx; rw [h0]; rfl
  rw [ht]
  refine List.ext_getElem (by simp [k.len]; omega) (fun i g1 g2 => ?_)
  have hi : i < 8 := by rw [← k.len]; exact g1
  rcases Nat.lt_or_ge i k.n.toNat with hin | hin
  · rw [List.getElem_append_left (by simp; omega), List.getElem_take]
  · rw [List.getElem_append_right (by simp; omega), List.getElem_replicate]
    have := h3 i hi (by omega)
    rw [List.getD_eq_getElem?_getD, List.getElem?_eq_getElem g1] at this
    exact this
theorem tx_byte {k : Kv 8} {x : Int} (h : x ∈ tx k) : Byte x := by
  unfold tx at h
  split at h
  · exact byte_wf (k.wb x (List.mem_of_mem_take h))
  · cases h
theorem key_ext {a b : Kv 8} (ha : kck a = true) (hb : kck b = true) (h : tx a = tx b) : a = b := by
  obtain ⟨m, h1, _, _, h2, h3⟩ := kck_parts ha
  obtain ⟨k, g1, _, _, g2, g3⟩ := kck_parts hb
  have e : m = k := by rw [← h2, ← g2, h]
  subst e
  exact Kv.ext' (by rw [h1, g1]) (by rw [h3, g3, h])
def lexI : List Int → List Int → Int
  | [], [] => 0
  | [], _ :: _ => -1
  | _ :: _, [] => 1
  | x :: xs, y :: ys => if x < y then -1 else if y < x then 1 else lexI xs ys
theorem lex_cmp : ∀ (l m : List Int), (∀ x ∈ l, Byte x) → (∀ x ∈ m, Byte x) → Lib.compareBytes (l.map fun n => UInt8.ofNat n.toNat) (m.map fun n => UInt8.ofNat n.toNat) = lexI l m
  | [], [], _, _ => rfl
  | [], _ :: _, _, _ => rfl
  | _ :: _, [], _, _ => rfl
  | x :: xs, y :: ys, hx, hy => by
    have h1 := hx x (List.mem_cons_self ..)
    have h2 := hy y (List.mem_cons_self ..)
    unfold Byte at h1 h2
    have hlt : ∀ {a b : Int}, 0 ≤ a → a ≤ 255 → 0 ≤ b → b ≤ 255 → ((UInt8.ofNat a.toNat < UInt8.ofNat b.toNat) ↔ a < b) := fun {a b} h1 h2 h3 h4 => by
      have e : ∀ n : Nat, (UInt8.ofNat n).toNat = n % 256 := fun n => by simp
      rw [UInt8.lt_iff_toNat_lt, e, e]
      omega
    have e1 := hlt h1.1 h1.2 h2.1 h2.2
    have e2 := hlt h2.1 h2.2 h1.1 h1.2
    simp only [List.map_cons, Lib.compareBytes, lexI, e1, e2]
    rw [lex_cmp xs ys (fun z hz => hx z (List.mem_cons_of_mem _ hz)) (fun z hz => hy z (List.mem_cons_of_mem _ hz))]
theorem lex_self : ∀ l : List Int, lexI l l = 0
  | [] => rfl
  | x :: l => by simp [lexI, lex_self l]
theorem lex_neg : ∀ l m : List Int, lexI m l = -lexI l m
  | [], [] => rfl
  | [], _ :: _ => rfl
  | _ :: _, [] => rfl
  | x :: xs, y :: ys => by
    simp only [lexI]
    by_cases h1 : x < y
    · have : ¬ y < x := by omega
      simp [h1, this]
    · by_cases h2 : y < x
      · simp [h1, h2]
      · simp [h1, h2, lex_neg xs ys]
theorem lex_zero : ∀ {l m : List Int}, lexI l m = 0 → l = m
  | [], [], _ => rfl
  | [], _ :: _, h => by cases h
  | _ :: _, [], h => by cases h
  | x :: xs, y :: ys, h => by
    simp only [lexI] at h
    split at h
    · cases h
    · split at h
      · cases h
      · rw [lex_zero h, show x = y by omega]
theorem lex_range : ∀ l m : List Int, lexI l m = -1 ∨ lexI l m = 0 ∨ lexI l m = 1
  | [], [] => .inr (.inl rfl)
  | [], _ :: _ => .inl rfl
  | _ :: _, [] => .inr (.inr rfl)
  | x :: xs, y :: ys => by
    simp only [lexI]
    split
    · exact .inl I
    · split
      · exact .inr (.inr I)
      · exact lex_range xs ys
theorem lex_trans : ∀ {a b c : List Int}, lexI a b ≤ 0 → lexI b c ≤ 0 → lexI a c ≤ 0
  | [], _, [], _, _ => by simp [lexI]
  | [], _, _ :: _, _, _ => by simp [lexI]
  | _ :: _, [], _, h, _ => by simp [lexI] at h
  | _ :: _, _ :: _, [], _, h => by simp [lexI] at h
  | x :: xs, y :: ys, z :: zs, h1, h2 => by
    simp only [lexI] at h1 h2 ⊢
    by_cases a1 : x < y
    · by_cases b1 : y < z
      · simp [show x < z by omega]
      · by_cases b2 : z < y
        · simp [b1, b2] at h2
        · simp [show x < z by omega]
    · by_cases a2 : y < x
      · simp [a1, a2] at h1
      · by_cases b1 : y < z
        · simp [show x < z by omega]
        · by_cases b2 : z < y
          · simp [b1, b2] at h2
          · simp [a1, a2] at h1
            simp [b1, b2] at h2
            simp [show ¬ x < z by omega, show ¬ z < x by omega]
            exact lex_trans h1 h2
theorem lex_trans' {a b c : List Int} (h1 : lexI a b < 0) (h2 : lexI b c ≤ 0) : lexI a c < 0 := by
  have := lex_trans (Int.le_of_lt h1) h2
  rcases Int.lt_or_eq_of_le this with h | h
  · exact h
  · have e := lex_zero h
    subst e
    have := lex_neg a b
    omega
def kcmp (a b : Kv 8) : Int := lexI (tx a) (tx b)
theorem from_take (n : Int) : (from_ n).take 8 = le n 8 := by
  unfold from_ pad
  rw [List.take_append_of_le_length (by rw [le_length]; exact Nat.le_refl _)]
  exact List.take_of_length_le (by rw [le_length]; exact Nat.le_refl _)
theorem num_from (n : Int) (h0 : 0 ≤ n) (h1 : n < 18446744073709551616) : num ((from_ n).take 8) = n := by
  rw [from_take, num_le 8 n h0]
  exact Int.emod_eq_of_lt h0 (by omega)
theorem wf_from (n : Int) : ∀ b ∈ from_ n, (Lit.int .u8 b).wf = true := wf_pad 16 (fun b hb => wf_u8 (le_byte 8 n b hb).1 (le_byte 8 n b hb).2)
theorem vcheck_from (n : Int) : vcheck 8 (from_ n) = true := by
  have := vcheck_nat 8 (from_ n) (by decide)
  rw [show ((8 : Nat) : Int) = 8 from rfl] at this
  rw [this, from_take]; simp [from_]
theorem wrap_bd (a : Int) : 0 ≤ IntKind.u64.wrap a ∧ IntKind.u64.wrap a < 18446744073709551616 := by simp only [IntKind.wrap_u64]; omega
theorem wrap_id {a : Int} (h0 : 0 ≤ a) (h1 : a < 18446744073709551616) : IntKind.u64.wrap a = a := by simp only [IntKind.wrap_u64]; omega
def vck (k : Kv 16) : Bool := vcheck k.n k.b
def vfrom (z : Int) : Kv 16 := ⟨8, from_ z, from_length z, by decide, wf_from z⟩
def vplus (k : Kv 16) (z : Int) : Kv 16 := vfrom (IntKind.u64.wrap (num (k.b.take 8) + z))
structure Ms where
  kind : Int
  seq : Int
  key : Kv 8
  val : Kv 16
  by' : Int
  wk : (Lit.int .i64 kind).wf = true
  ws : (Lit.int .u64 seq).wf = true
  wy : (Lit.int .u64 by').wf = true
namespace Ms
def c (m : Ms) : List Value := [.int .i64 m.kind, .int .u64 m.seq] ++ (m.key.c ++ (m.val.c ++ [.int .u64 m.by']))
theorem ext' {a b : Ms} (h1 : a.kind = b.kind) (h2 : a.seq = b.seq) (h3 : a.key = b.key) (h4 : a.val = b.val) (h5 : a.by' = b.by') : a = b := by
  cases a; cases b; simp only at h1 h2 h3 h4 h5; subst h1; subst h2; subst h3; subst h4; subst h5; rfl
instance : DecidableEq Ms := fun a b => if h : a.kind = b.kind ∧ a.seq = b.seq ∧ a.key = b.key ∧ a.val = b.val ∧ a.by' = b.by' then isTrue (ext' h.1 h.2.1 h.2.2.1 h.2.2.2.1 h.2.2.2.2) else isFalse (fun e => h (by subst e; exact ⟨rfl, rfl, rfl, rfl, rfl⟩))
theorem c_len (m : Ms) : m.c.length = 29 := by simp [c, Kv.c_len]
theorem key_part (m : Ms) : (m.c.drop 2).take 9 = m.key.c := part_mid rfl (Kv.c_len _)
theorem val_part (m : Ms) : (m.c.drop 11).take 17 = m.val.c := by
  unfold c; rw [← List.append_assoc]; exact part_mid (by simp [Kv.c_len]) (Kv.c_len _)
theorem by_part (m : Ms) : m.c[28]? = some (.int .u64 m.by') := by
  unfold c; rw [← List.append_assoc, ← List.append_assoc, List.getElem?_append_right (by simp [Kv.c_len])]; simp [Kv.c_len]
def setKind (m : Ms) (k : Int) (h : (Lit.int .i64 k).wf = true) : Ms := { m with kind := k, wk := h }
def setKey (m : Ms) (k : Kv 8) : Ms := { m with key := k }
def setVal (m : Ms) (v : Kv 16) : Ms := { m with val := v }
def setBy (m : Ms) (z : Int) (h : (Lit.int .u64 z).wf = true) : Ms := { m with by' := z, wy := h }
theorem set_val (m : Ms) (v : Kv 16) : Sep.splice m.c 11 v.c = (m.setVal v).c := by
  unfold c; rw [← List.append_assoc]
  rw [splice_mid (by simp [Kv.c_len]) (by rw [Kv.c_len, Kv.c_len]), List.append_assoc]; rfl
theorem set_by (m : Ms) (z : Int) (h : (Lit.int .u64 z).wf = true) : m.c.set 28 (.int .u64 z) = (m.setBy z h).c := by
  unfold c; rw [← List.append_assoc, ← List.append_assoc, List.set_append_right _ _ (by simp [Kv.c_len])]
  simp [Kv.c_len, setBy]
theorem one (m : Ms) : ∀ v ∈ m.c, v.oneCell' = true := by
  intro v hv
  unfold c at hv
  simp only [List.mem_append, List.mem_cons, List.not_mem_nil, or_false] at hv
  rcases hv with (rfl | rfl) | hv | hv | rfl
  · rfl
  · rfl
  · exact Kv.one _ v hv
  · exact Kv.one _ v hv
  · rfl
theorem c_inj {a b : Ms} : a.c = b.c ↔ a = b := by
  refine ⟨fun h => ?_, fun h => by rw [h]⟩
  have h2 := h
  unfold c at h
  simp only [List.cons_append, List.nil_append, List.cons.injEq, Value.int.injEq, true_and] at h
  have hk : a.key.c = b.key.c := by rw [← key_part, ← key_part, h2]
  have hv : a.val.c = b.val.c := by rw [← val_part, ← val_part, h2]
  have hb : a.c[28]? = b.c[28]? := by rw [h2]
  rw [by_part, by_part] at hb
  exact ext' h.1 h.2.1 (Kv.c_inj.1 hk) (Kv.c_inj.1 hv) (by simpa using hb)
theorem eqb {a b : Ms} : a.c = b.c ↔ decide (a = b) = true := by rw [c_inj, decide_eq_true_eq]
def enc : Enc Ms := { sz := 29, f := Ms.c, len := c_len, pos := by decide, one := one }
def ks : List Sc := [Sc.i .i64, Sc.i .u64] ++ (Kv.ks 8 ++ (Kv.ks 16 ++ [Sc.i .u64]))
end Ms
theorem kinds_app {a b : List Sc} {xs ys : List Value} (h1 : Kinds a xs) (h2 : Kinds b ys) : Kinds (a ++ b) (xs ++ ys) := by
  refine ⟨by rw [List.length_append, List.length_append, h1.1, h2.1], fun j q v g1 g2 => ?_⟩
  rcases Nat.lt_or_ge j a.length with hj | hj
  · rw [List.getElem?_append_left hj] at g1
    rw [List.getElem?_append_left (by have := h1.1; omega)] at g2
    exact h1.2 j q v g1 g2
  · rw [List.getElem?_append_right hj] at g1
    rw [List.getElem?_append_right (by have := h1.1; omega), h1.1] at g2
    exact h2.2 _ q v g1 (by have := h1.1; first | exact g2 | (rw [this] at *; exact g2))
theorem kinds_one {k : Sc} {v : Value} (h : k.ok v) : Kinds [k] [v] := ⟨rfl, fun j q u g1 g2 => by
  cases j with
  | zero => simp at g1 g2; subst g1; subst g2; exact h
  | succ j => simp at g1⟩
theorem Ms.kinds (m : Ms) : Kinds Ms.ks m.c := by
  have h0 : Kinds [Sc.i .i64, Sc.i .u64] [Value.int .i64 m.kind, Value.int .u64 m.seq] := kinds_app (a := [_]) (xs := [_]) (kinds_one (show Sc.ok (.i .i64) _ from ⟨_, rfl, m.wk⟩)) (kinds_one (show Sc.ok (.i .u64) _ from ⟨_, rfl, m.ws⟩))
  exact kinds_app h0 (kinds_app (Kv.kinds m.key) (kinds_app (Kv.kinds m.val) (kinds_one (show Sc.ok (.i .u64) _ from ⟨_, rfl, m.wy⟩))))
section
variable {n : Nat} {L : Env} {X : World → Prop} {o : Oper}
theorem q_eqK {u : TypeId} {x y : Operand} (k j : Kv 8) (ho : o.op = .binOp .eql 77 x y u) (hx : ev L x = some (.agg k.c.toArray)) (hy : ev L y = some (.agg j.c.toArray)) : QOp Tryz.prog n L X o (.bool (decide (k = j))) :=
  q_eqAgg (d := 3) (ks := Kv.ks 8) _ (by kernel_rfl) (by kernel_rfl) (by decide) (by kernel_rfl) (by kernel_rfl) (by kernel_rfl) ho hx hy (Kv.kinds k) (Kv.kinds j) Kv.eqb
theorem q_eqVl {u : TypeId} {x y : Operand} (k j : Kv 16) (ho : o.op = .binOp .eql 56 x y u) (hx : ev L x = some (.agg k.c.toArray)) (hy : ev L y = some (.agg j.c.toArray)) : QOp Tryz.prog n L X o (.bool (decide (k = j))) :=
  q_eqAgg (d := 3) (ks := Kv.ks 16) _ (by kernel_rfl) (by kernel_rfl) (by decide) (by kernel_rfl) (by kernel_rfl) (by kernel_rfl) ho hx hy (Kv.kinds k) (Kv.kinds j) Kv.eqb
end
def mck (m : Ms) : Bool := kck m.key && (if m.kind = 1 then vck m.val && decide (m.by' = 0) else if m.kind = 2 then decide (m.by' = 0) && decide (m.val = kv0 16) else if m.kind = 3 then decide (m.val = kv0 16) else false)
theorem ms_whole (m : Ms) : (m.c.drop 0).take 29 = m.c := List.take_of_length_le (by rw [List.drop_zero, Ms.c_len]; exact Nat.le_refl _)
theorem kck_bd {k : Kv 8} (h : kck k = true) : 0 ≤ k.n ∧ k.n ≤ 8 := by
  unfold kck at h; have := of_decide_eq_true h; exact ⟨this.1, this.2.1⟩
theorem vck_bd {k : Kv 16} (h : vck k = true) : 0 ≤ k.n ∧ k.n ≤ 16 := by
  unfold vck vcheck at h; have := of_decide_eq_true h; exact ⟨this.1, this.2.1⟩
def ms0 : Ms := ⟨0, 0, kv0 8, kv0 16, 0, by decide, by decide, by decide⟩
def mby (m : Ms) : Int := if mck m = true then 10 + m.key.n + (if m.kind = 1 then 1 + m.val.n else if m.kind = 3 then 8 else 0) else 0
theorem wf_wrap (z : Int) : (Lit.int .u64 (IntKind.u64.wrap z)).wf = true := by
  have := wrap_bd z
  simp only [Lit.wf, Bool.and_eq_true, decide_eq_true_eq]
  exact ⟨this.1, by show _ ≤ (2 ^ 64 - 1 : Int); omega⟩
def mco (a b : Ms) : Ms := if b.kind ≠ 3 ∨ a.key ≠ b.key then b else if a.kind = 2 then { b with kind := 1, val := vplus (kv0 16) b.by', by' := 0, wk := by decide, wy := by decide } else
  if a.kind = 1 then { b with kind := 1, val := vplus a.val b.by', by' := 0, wk := by decide, wy := by decide } else if a.kind = 3 then { b with by' := IntKind.u64.wrap (b.by' + a.by'), wy := wf_wrap _ } else b
def rco (a b : Ms) : Ms := if b.kind ≠ 3 ∨ a.key ≠ b.key then b else if a.kind = 1 then { b with kind := 1, val := vplus a.val b.by', by' := 0, wk := by decide, wy := by decide } else
  if a.kind = 2 then { b with kind := 1, val := vfrom b.by', by' := 0, wk := by decide, wy := by decide } else { b with kind := 3, val := kv0 16, by' := IntKind.u64.wrap (a.by' + b.by'), wk := by decide, wy := wf_wrap _ }
def map' (v : Kv 16) (t : Bool) (m : Ms) : Kv 16 × Bool := if m.kind = 1 then (m.val, true) else if m.kind = 3 then (vplus (if t = true then v else kv0 16) m.by', true) else (kv0 16, false)
def rap (v : Kv 16) (t : Bool) (m : Ms) : Kv 16 × Bool := if m.kind = 1 then (m.val, true) else if m.kind = 2 then (kv0 16, false) else if t = true then (vplus v m.by', true) else (vfrom m.by', true)
def mk3 (k q : Int) (key : Kv 8) (wk : (Lit.int .i64 k).wf = true) (wq : (Lit.int .u64 q).wf = true) : Ms := ⟨k, q, key, kv0 16, 0, wk, wq, by decide⟩
theorem kv8_list (k : Kv 8) : ∃ a b c d e f g h : Int, k.b = [a, b, c, d, e, f, g, h] := by
  obtain ⟨n, b, len, _, _⟩ := k
  match b, len with
  | [a, b, c, d, e, f, g, h], _ => exact ⟨a, b, c, d, e, f, g, h, rfl⟩
def fst1 {α : Type} (p : α → Bool) (l : List α) : Option Nat := l.findIdx? p
def io : Option Nat → Int
  | some k => (k : Int)
  | none => -1
theorem fst1_some {α : Type} {p : α → Bool} {l : List α} {k : Nat} {y : α} (hy : l[k]? = some y) (hp : p y = true) (hn : ∀ z ∈ l.take k, p z = false) : fst1 p l = some k := by
  unfold fst1
  have hk := (List.getElem?_eq_some_iff.1 hy).1
  rw [List.findIdx?_eq_some_iff_getElem]
  refine ⟨hk, by rw [(List.getElem?_eq_some_iff.1 hy).2]; exact hp, fun j hj => ?_⟩
  have := hn l[j] (by rw [List.mem_take_iff_getElem]; exact ⟨j, by omega, rfl⟩)
  simp [this]
theorem fst1_none {α : Type} {p : α → Bool} {l : List α} (hn : ∀ z ∈ l, p z = false) : fst1 p l = none := by
  unfold fst1; rw [List.findIdx?_eq_none_iff]; exact hn
theorem fst1_at {α : Type} {p : α → Bool} {l : List α} {k : Nat} (h : fst1 p l = some k) : ∃ y, l[k]? = some y ∧ p y = true ∧ ∀ j z, j < k → l[j]? = some z → p z = false := by
  unfold fst1 at h
  rw [List.findIdx?_eq_some_iff_getElem] at h
  obtain ⟨hk, hp, hn⟩ := h
  refine ⟨l[k], List.getElem?_eq_getElem hk, hp, fun j z hj hz => ?_⟩
  have := hn j hj
  rw [← (List.getElem?_eq_some_iff.1 hz).2]; simpa using this
theorem fst1_no {α : Type} {p : α → Bool} {l : List α} (h : fst1 p l = none) : ∀ z ∈ l, p z = false := by
  unfold fst1 at h; rw [List.findIdx?_eq_none_iff] at h; exact h
theorem fst1_map {α β : Type} (f : α → β) (p : β → Bool) (l : List α) : fst1 p (l.map f) = fst1 (fun x => p (f x)) l := by
  unfold fst1; rw [List.findIdx?_map]; rfl
theorem take_none {α : Type} {p : α → Bool} {l : List α} {k : Nat} {y : α} (h : ∀ z ∈ l.take k, p z = false) (hy : l[k]? = some y) (hn : p y = false) : ∀ z ∈ l.take (k + 1), p z = false := fun z hz => by
  rw [List.take_add_one, hy] at hz
  rcases List.mem_append.1 hz with hz | hz
  · exact h z hz
  · simp at hz; subst hz; exact hn
theorem io_ge {o : Option Nat} : decide (0 ≤ io o) = o.isSome := by cases o with
  | none => rfl
  | some k => exact decide_eq_true (by simp [io])
structure Sv where
  a : Option Addr
  n : Nat
  c : Nat
abbrev Sv.v (s : Sv) : Value := .slice s.a s.n s.c
def sv0 : Sv := ⟨none, 0, 0⟩
structure En where
  key : Kv 8
  val : Kv 16
namespace En
def c (e : En) : List Value := e.key.c ++ e.val.c
theorem c_len (e : En) : e.c.length = 26 := by simp [c, Kv.c_len]
theorem one (e : En) : ∀ v ∈ e.c, v.oneCell' = true := fun v hv => by
  rcases List.mem_append.1 hv with hv | hv
  · exact Kv.one _ _ hv
  · exact Kv.one _ _ hv
theorem ext' {a b : En} (h1 : a.key = b.key) (h2 : a.val = b.val) : a = b := by cases a; cases b; simp only at h1 h2; subst h1; subst h2; rfl
theorem c_inj {a b : En} : a.c = b.c ↔ a = b := by
  refine ⟨fun h => ?_, fun h => by rw [h]⟩
  obtain ⟨h1, h2⟩ := List.append_inj h (by rw [Kv.c_len, Kv.c_len])
  exact ext' (Kv.c_inj.1 h1) (Kv.c_inj.1 h2)
def ks : List Sc := Kv.ks 8 ++ Kv.ks 16
theorem kinds (e : En) : Kinds ks e.c := kinds_app (Kv.kinds _) (Kv.kinds _)
theorem key_part (e : En) : (e.c.drop 0).take 9 = e.key.c := List.take_left' (Kv.c_len _)
theorem val_part (e : En) : (e.c.drop 9).take 17 = e.val.c := by
  unfold c
  rw [List.drop_left' (Kv.c_len _)]
  exact List.take_of_length_le (by rw [Kv.c_len]; exact Nat.le_refl _)
theorem whole (e : En) : (e.c.drop 0).take 26 = e.c := List.take_of_length_le (by rw [List.drop_zero, c_len]; exact Nat.le_refl _)
def enc : Enc En := { sz := 26, f := En.c, len := c_len, pos := by decide, one := one }
end En
instance : DecidableEq En := fun a b => if h : a.key = b.key ∧ a.val = b.val then isTrue (En.ext' h.1 h.2) else isFalse (fun e => h (by subst e; exact ⟨rfl, rfl⟩))
structure Nd where
  leaf : Bool
  es : List En
  kids : List Int
  piv : List (Kv 8)
  msgs : List Ms
deriving DecidableEq
def nd0 : Nd := ⟨false, [], [], [], []⟩
def ndL : Nd := ⟨true, [], [], [], []⟩
structure Nd.Sm (n : Nd) (B : Nat) : Prop where
  e : n.es.length ≤ B
  k : n.kids.length ≤ B
  p : n.piv.length ≤ B
  m : n.msgs.length ≤ B
theorem Nd.Sm.mono {n : Nd} {B C : Nat} (h : n.Sm B) (hc : B ≤ C) : n.Sm C := ⟨Nat.le_trans h.e hc, Nat.le_trans h.k hc, Nat.le_trans h.p hc, Nat.le_trans h.m hc⟩
theorem nd0_sm (B : Nat) : nd0.Sm B := ⟨Nat.zero_le _, Nat.zero_le _, Nat.zero_le _, Nat.zero_le _⟩
theorem ndL_sm (B : Nat) : ndL.Sm B := ⟨Nat.zero_le _, Nat.zero_le _, Nat.zero_le _, Nat.zero_le _⟩
structure N4 where
  e : Sv
  k : Sv
  p : Sv
  m : Sv
def n40 : N4 := ⟨sv0, sv0, sv0, sv0⟩
structure NV where
  s : N4
  d : Nd
abbrev nil0 : Value := .slice none 0 0
def NV.c (v : NV) : List Value := [.bool v.d.leaf, v.s.e.v, v.s.k.v, v.s.p.v, v.s.m.v]
def nv0 : NV := ⟨n40, nd0⟩
def nvL : NV := ⟨n40, ndL⟩
theorem NV.c_len (v : NV) : v.c.length = 5 := rfl
theorem NV.one (v : NV) : ∀ x ∈ v.c, x.oneCell' = true := fun x hx => by
  simp only [NV.c, List.mem_cons, List.not_mem_nil, or_false] at hx
  rcases hx with rfl | rfl | rfl | rfl | rfl <;> rfl
abbrev rowEn (s : Sv) (l : List En) : Ent := rowE s.v 79 En.enc l
abbrev rowKi (s : Sv) (l : List Int) : Ent := rowE s.v 3 (encI .i64) l
abbrev rowPi (s : Sv) (l : List (Kv 8)) : Ent := rowE s.v 77 (Kv.enc 8) l
abbrev rowMs (s : Sv) (l : List Ms) : Ent := rowE s.v 154 Ms.enc l
abbrev nrows (v : NV) : List Ent := [rowEn v.s.e v.d.es, rowKi v.s.k v.d.kids, rowPi v.s.p v.d.piv, rowMs v.s.m v.d.msgs]
structure NRd (w : World) (v : NV) : Prop where
  e : RdV w v.s.e.v En.enc v.d.es
  k : RdV w v.s.k.v (encI .i64) v.d.kids
  p : RdV w v.s.p.v (Kv.enc 8) v.d.piv
  m : RdV w v.s.m.v Ms.enc v.d.msgs
theorem NRd.keep {w0 w : World} {v : NV} {H : List Ent} (h : NRd w0 v) (s : St w0 [] H w) : NRd w v := ⟨h.e.keep s (by simp), h.k.keep s (by simp), h.p.keep s (by simp), h.m.keep s (by simp)⟩
theorem NRd.drew {w : World} {v : NV} (h : NRd w v) : NRd w.drew v := ⟨h.e.drew, h.k.drew, h.p.drew, h.m.drew⟩
structure FC where
  st : Int
  blk : Int
  own : Int
  pins : Int
  ref : Bool
  dirty : Bool
  nv : NV
namespace FC
def c (f : FC) : List Value := [.int .i64 f.st, .int .i64 f.blk, .int .i64 f.own, .int .i64 f.pins, .bool f.ref, .bool f.dirty, .bool f.nv.d.leaf, f.nv.s.e.v, f.nv.s.k.v, f.nv.s.p.v, f.nv.s.m.v]
def cA (f : FC) : List Value := [.int .i64 f.st, .int .i64 f.blk, .int .i64 f.pins, .bool f.ref, .bool f.dirty, .bool f.nv.d.leaf, f.nv.s.e.v, f.nv.s.k.v, f.nv.s.p.v, f.nv.s.m.v, nil0, .int .i64 (-1), nil0]
theorem one (f : FC) : ∀ x ∈ f.c, x.oneCell' = true := fun x hx => by
  simp only [c, List.mem_cons, List.not_mem_nil, or_false] at hx
  rcases hx with rfl | rfl | rfl | rfl | rfl | rfl | rfl | rfl | rfl | rfl | rfl <;> rfl
theorem oneA (f : FC) : ∀ x ∈ f.cA, x.oneCell' = true := fun x hx => by
  simp only [cA, List.mem_cons, List.not_mem_nil, or_false] at hx
  rcases hx with rfl | rfl | rfl | rfl | rfl | rfl | rfl | rfl | rfl | rfl | rfl | rfl | rfl <;> rfl
def enc : Enc FC := ⟨11, c, fun _ => rfl, one, by decide⟩
def encA : Enc FC := ⟨13, cA, fun _ => rfl, oneA, by decide⟩
end FC
structure Wn where
  t : Int
  b : Int
  cl : Bool
namespace Wn
def c (w : Wn) : List Value := [.int .i64 w.t, .int .i64 w.b, .bool w.cl]
theorem one (w : Wn) : ∀ x ∈ w.c, x.oneCell' = true := fun x hx => by
  simp only [c, List.mem_cons, List.not_mem_nil, or_false] at hx
  rcases hx with rfl | rfl | rfl <;> rfl
def enc : Enc Wn := ⟨3, c, fun _ => rfl, one, by decide⟩
theorem ext' {a b : Wn} (h1 : a.t = b.t) (h2 : a.b = b.b) (h3 : a.cl = b.cl) : a = b := by cases a; cases b; simp only at h1 h2 h3; subst h1; subst h2; subst h3; rfl
end Wn
instance : DecidableEq Wn := fun a b => if h : a.t = b.t ∧ a.b = b.b ∧ a.cl = b.cl then isTrue (Wn.ext' h.1 h.2.1 h.2.2) else isFalse (fun e => h (by subst e; exact ⟨rfl, rfl, rfl⟩))
def encP : Enc (Int × Int) := ⟨2, fun p => [.int .i64 p.1, .int .i64 p.2], fun _ => rfl, fun a u h => by simp at h; rcases h with rfl | rfl <;> rfl, by decide⟩
structure Vw where
  st : Int
  blk : Int
  own : Int
  pins : Int
  ref : Bool
  dirty : Bool
  nd : Nd
def vw (f : FC) : Vw := ⟨f.st, f.blk, if f.st = 3 then f.own else 0, f.pins, f.ref, f.dirty, f.nv.d⟩
structure Mo where
  fr : List Vw
  loads : List (Int × Int)
  line : List (Int × Int)
  hand : Int
def isB (b : Int) (f : Vw) : Bool := decide (f.blk = b) && (decide (f.st = 1) || decide (f.st = 2))
def isF (f : Vw) : Bool := decide (f.st = 0)
def isC (t : Int) (f : Vw) : Bool := decide (f.st = 3) && decide (f.own = t)
def isT (t : Int) (q : Int × Int) : Bool := decide (q.1 = t)
def tkB (t : Int) : Bool := decide (0 ≤ t) && decide (t < 8)
def bkB (b : Int) : Bool := decide (0 ≤ b) && decide (b < 256)
def free0 : Vw := ⟨0, -1, 0, 0, false, false, nd0⟩
namespace Mo
def find (M : Mo) (b : Int) : Option Nat := fst1 (isB b) M.fr
def freeI (M : Mo) : Option Nat := fst1 isF M.fr
def stand (M : Mo) (t : Int) : Option Nat := fst1 (isT t) M.line
def waits (M : Mo) (t : Int) : Bool := M.loads.any (isT t)
def turn (M : Mo) (t : Int) : Bool := match M.line with | [] => true | q :: _ => decide (q.1 = t)
def takes (M : Mo) (t : Int) : Option Nat := if M.turn t = true then M.freeI else none
def leave (M : Mo) (t : Int) : Mo := { M with line := match M.stand t with | some i => M.line.eraseIdx i | none => M.line }
def ask (M : Mo) (t b : Int) : Mo := { M with line := if (M.stand t).isNone = true then M.line ++ [(t, b)] else M.line }
def mayW (M : Mo) (t b : Int) : Bool := tkB t && !M.waits t && (match M.stand t with | some i => decide (M.line[i]? = some (t, b)) | none => true)
def put (M : Mo) (i : Nat) (f : Vw) : Mo := { M with fr := M.fr.set i f }
def at' (M : Mo) (i : Nat) : Vw := M.fr.getD i free0
def pin (M : Mo) (t b : Int) : Int × Mo :=
  if (bkB b && M.mayW t b) = false then (0, M)
  else match M.find b with
    | some i =>
      let N := (M.put i { M.at' i with pins := (M.at' i).pins + 1, ref := true }).leave t
      if (M.at' i).st = 2 then (1, N) else (2, { N with loads := N.loads ++ [(t, b)] })
    | none => match M.takes t with
      | none => (4, M.ask t b)
      | some k => (3, (M.leave t).put k ⟨1, b, 0, 1, true, false, nd0⟩)
def frI (M : Mo) (b st : Int) : Option Nat := match M.find b with | some i => if (M.at' i).st = st then some i else none | none => none
def told (M : Mo) (b : Int) : List Int := (M.loads.filter (fun q => decide (q.2 = b))).map Prod.fst
def fill (M : Mo) (b : Int) (nd : Nd) : (List Int × Bool) × Mo :=
  match M.frI b 1 with
  | some i => ((M.told b, true), { M.put i { M.at' i with st := 2, nd := nd } with loads := M.loads.filter (fun q => !decide (q.2 = b)) })
  | none => (([], false), M)
def claim (M : Mo) (t : Int) : Bool × Mo :=
  if M.mayW t (-1) = false then (false, M)
  else match M.takes t with
    | none => (false, M.ask t (-1))
    | some k => (true, (M.leave t).put k ⟨3, -1, t, 1, false, false, nd0⟩)
def claims (M : Mo) (t : Int) : Nat := M.fr.countP (isC t)
def give (M : Mo) (t : Int) : Mo := { M with fr := M.fr.map (fun f => if isC t f = true then free0 else f) }
def name (M : Mo) (t b : Int) (nd : Nd) : Bool × Mo :=
  match (bkB b && (M.find b).isNone), fst1 (isC t) M.fr with
  | true, some k => (true, M.put k ⟨2, b, 0, 0, true, true, nd⟩)
  | _, _ => (false, M)
abbrev ready (M : Mo) (b : Int) : Option Nat := M.frI b 2
def unpin (M : Mo) (b : Int) : Bool × Mo :=
  match M.ready b with
  | some i => if (M.at' i).pins = 0 then (false, M) else (true, M.put i { M.at' i with pins := (M.at' i).pins - 1 })
  | none => (false, M)
def node (M : Mo) (b : Int) : Nd × Bool := match M.ready b with | some i => ((M.at' i).nd, true) | none => (nd0, false)
def setN (M : Mo) (b : Int) (nd : Nd) : Bool × Mo :=
  match M.ready b with
  | some i => (true, M.put i { M.at' i with dirty := true, nd := nd })
  | none => (false, M)
def free (M : Mo) : Nat := M.fr.countP isF
def may (M : Mo) (t : Int) : Bool :=
  tkB t && !M.waits t && (match M.stand t with
    | none => true
    | some k => (decide (k = 0) && decide (0 < M.free)) || (M.find (M.line.getD k (0, -1)).2).isSome)
end Mo
structure Mo.Ok (M : Mo) (B : Nat) : Prop where
  n1 : 1 ≤ M.fr.length
  n64 : M.fr.length ≤ 64
  st : ∀ f ∈ M.fr, f.st = 0 ∨ f.st = 1 ∨ f.st = 2 ∨ f.st = 3
  none' : ∀ f ∈ M.fr, f.st = 0 ∨ f.st = 3 → f.blk = -1
  blk : ∀ f ∈ M.fr, f.st = 1 ∨ f.st = 2 → 0 ≤ f.blk ∧ f.blk < 256
  own : ∀ f ∈ M.fr, f.st = 3 → 0 ≤ f.own ∧ f.own < 8
  own0 : ∀ f ∈ M.fr, f.st ≠ 3 → f.own = 0
  pins : ∀ f ∈ M.fr, 0 ≤ f.pins ∧ f.pins ≤ (B : Int)
  uni : ∀ (i j : Nat) (f g : Vw), M.fr[i]? = some f → M.fr[j]? = some g → f.st = 1 ∨ f.st = 2 → g.st = 1 ∨ g.st = 2 → f.blk = g.blk → i = j
  ll : M.loads.length ≤ B
  lB : M.line.length ≤ B
  ln : (M.line.map Prod.fst).Nodup
  lb : ∀ q ∈ M.line, -1 ≤ q.2 ∧ q.2 < 256
  lo : ∀ q ∈ M.loads, ∃ f ∈ M.fr, f.st = 1 ∧ f.blk = q.2
  es : ∀ f ∈ M.fr, f.nd.Sm 1000
  hw : (Lit.int .i64 M.hand).wf = true
  B9 : B ≤ 60000
end Go.Proofs.YtloldofjddbjoaaGreat
namespace Go.Proofs.YtloldofjddbjoaaGreat
open Go.Sep Go.RowKit Tryz
abbrev kc (n : Int) (l : List Int) : List Value := .int .i64 n :: l.map (.int .u8)
theorem kc_len {n : Int} {l : List Int} (h : l.length = 8) : (kc n l).length = 9 := by simp [h]
theorem kc_one {n : Int} {l : List Int} : ∀ v ∈ kc n l, v.oneCell' = true := by
  intro v hv
  rcases List.mem_cons.1 hv with rfl | hv
  · rfl
  · obtain ⟨z, _, rfl⟩ := List.mem_map.1 hv; rfl
theorem kc_all {n m : Int} {l k : List Int} (h : l.length = 8) (h' : k.length = 8) : Sep.splice (kc n l) 0 (kc m k) = kc m k := Sep.splice_all (by rw [kc_len h, kc_len h'])
abbrev z8 : List Int := List.replicate 8 0
theorem z8_len : z8.length = 8 := rfl
theorem kc_part {n : Int} {l : List Int} {m : Nat} (h : m ≤ l.length) : ((kc n l).drop (0 + 1)).take (m * (encI .u8).sz) = (encI .u8).flat (l.take m) := by
  rw [flat_u8]
  show ((l.map (Value.int .u8))).take (m * 1) = _
  rw [Nat.mul_one, List.map_take]
theorem kc_put {n : Int} {l : List Int} (h : l.length ≤ 8) : Sep.splice (kc n z8) (0 + 1) (l.map (.int .u8)) = kc n (l ++ List.replicate (8 - l.length) 0) := by
  have hz : z8 = List.replicate l.length 0 ++ List.replicate (8 - l.length) 0 := by
    show List.replicate 8 0 = _
    rw [List.replicate_append_replicate, show l.length + (8 - l.length) = 8 from by omega]
  have e : kc n z8 = [Value.int .i64 n] ++ (List.replicate l.length (Value.int .u8 0) ++ List.replicate (8 - l.length) (Value.int .u8 0)) := by
    rw [kc, hz]; simp [List.map_append, List.map_replicate]
  have hs := splice_mid (a := [Value.int .i64 n]) (b := List.replicate l.length (Value.int .u8 0)) (c := List.replicate (8 - l.length) (Value.int .u8 0)) (vs := l.map (Value.int .u8)) (k := 0 + 1) rfl (by simp)
  rw [e, hs]
  simp [kc, List.map_append, List.map_replicate]
theorem kcheck_spec (k : Kv 8) : Con Tryz.prog 279 [.agg k.c.toArray] (fun _ => True) [] (fun _ : Unit => .bool (kck k)) (fun _ => True) (fun _ => []) := by
  intro w hE hH
  refine enter (n := 25) (vs := [.agg k.c.toArray]) (St w [] []) func279 I I I (St.init hH) ?_
  refine Cs I (l_e I (e_box I I I I ?_))
  intro bk
  refine cells_eq (show _ = k.c from I) (Ak I (c_seq (Cs I (Lfa U77 I Z3 I (Lo G3 0 I (Lq I (q_lss I I I) (Lm I ?_)))))))
  refine Pre.caseB 7 I (fun h1 => ?_) (fun h1 => ?_)
  · try simp only [B4] at h1
    rw [kck_lo h1]
    refine Lx I (Lx I (Lx I (Lq I (q_pick_t I I I) (Nk (c_true I (Cs I (Ak I (c_ret (k_then_ret (r_one I I ?_))))))))))
    exact fun _ h => ⟨(), rfl, trivial, h.nothing⟩
  · try simp only [B4] at h1
    refine Lfa U77 I Z3 I (Lo G3 0 I (Lq I (q_gtr I I I) (Lq I (q_pick_f I I I) (Nk ?_))))
    refine Pre.caseB 11 I (fun h2 => ?_) (fun h2 => ?_)
    · try simp only [B4] at h2
      rw [kck_hi h2]
      refine c_true I (Cs I (Ak I (c_ret (k_then_ret (r_one I I ?_)))))
      exact fun _ h => ⟨(), rfl, trivial, h.nothing⟩
    · try simp only [B4] at h2
      obtain ⟨m, hm, hm8⟩ : ∃ m : Nat, k.n = (m : Int) ∧ m ≤ 8 := ⟨k.n.toNat, by omega, by omega⟩
      refine c_false I (c_skip (Kt (Cs I (Lfa U77 I Z3 I (Lo G3 0 I (Lq I (q_build ((kz 8 k.n k.wn).c) I I (fun w => by kernel_rfl)) (l_e I (e_alloc I I I zeroValue77 ?_))))))))
      intro bx
      refine l_e I (e_storeAgg I I Z77 I I I (Kv.one _) (Nat.le_of_ble_eq_true I) (cells_eq (show _ = .int .i64 k.n :: List.replicate 8 (.int .u8 0) from I) (Ns (D4 [(0,O),(1,O),(2,O),(3,O),(4,O),(5,O),(6,W)] [6] [(_,O),(_,O),(_,O),(_,O),(_,O),(_,O),(_,W)] _ I I I I St.drawn Ih (Dfa U77 I sizeOf75 I (Dfa U77 I Z3 I (Dq I (q_loadC I G3 I (Hat 1 I) I) (Dq I (q_sliceArrH m I U75 Z5 I I hm (by omega)) (Dfa U77 I sizeOf75 I (Dq I (q_sliceArr I U75 Z5 I) (d_t I (e_copy (E := (encI .u8)) (l := k.b) I I I U23 Z5 I I (fun _ h => rd_part (h.at 1 I) (encI .u8) k.b k.len (Nat.le_refl _) (by rw [flat_u8]; exact List.take_of_length_le (by simp [Kv.c, k.len, encI]))) (by simp [k.len, encI]; omega) (cells_eq (show _ = (kcut k m hm8).c from by rw [hm]; exact kcopy k hm8) (d_nil (Kt (Cs I (Lq I (q_loadCAgg ((kcut k m hm8).c) I G77 Z77 I (Hat 0 I) (kv_whole _) (Kv.c_len _)) (Lq I (q_loadCAgg (k.c) I G77 Z77 I (Hat 1 I) (kv_whole _) (Kv.c_len _)) (Lq I (q_eqK ((kcut k m hm8)) (k) I I I) (Ak I (c_ret ?_)))))))))))))))))))))
      rw [← kcut_eq k hm hm8]
      refine r_one I I ?_
      exact fun _ h => ⟨(), rfl, trivial, h.nothing⟩
theorem of_spec (s : ByteArray) (hs : s.size ≤ 9223372036854775807) : Con Tryz.prog 125 [.string s] (fun _ => True) [] (fun _ : Unit => if h : s.size ≤ 8 then .tuple #[.agg (kof s h).c.toArray, .int .i64 0] else .tuple #[.agg (kc 0 z8).toArray, .int .i64 2]) (fun _ => True) (fun _ => []) := by
  intro w hE hH
  refine enter (n := 17) (vs := [.string s]) (St w [] []) func125 I I I (St.init hH) ?_
  refine Cs I (l_e I (e_alloc I I I zeroValue77 ?_))
  intro br
  refine cells_eq (show _ = kc 0 z8 from I) (Ak I (c_seq (Cs I (Lm I (Lq I (q_lenS I U9 I) (Lq I (q_gtr I I I) (Nk ?_)))))))
  refine Pre.caseB 7 I (fun h1 => ?_) (fun h1 => ?_)
  · try simp only [B4] at h1
    have hno : ¬ s.size ≤ 8 := by omega
    refine c_true I (Cs I (Lq I (q_build (kc 0 z8) I I (fun w => by kernel_rfl)) (l_e I (e_storeAgg I I Z77 I I I kc_one (Nat.le_of_ble_eq_true I) (cells_eq (kc_all z8_len z8_len) (Ak I (c_ret (k_then_ret (r_res2 I (res_cellA I G77 Z77 (Hat 0 I) (kc_len z8_len)) (show Sep.look _ _ = some _ from I) ?_)))))))))
    exact fun _ h => ⟨(), by rw [dif_neg hno], trivial, h.nothing⟩
  · try simp only [B4] at h1
    have hyes : s.size ≤ 8 := by omega
    have hbl := byt_len s
    refine c_false I (c_skip (Kt (Cs I (Lm I (Lq I (q_lenS I U9 I) (Lq I (q_build (kc (s.size : Int) z8) I I (fun w => by kernel_rfl)) (l_e I (e_alloc I I I zeroValue77 ?_))))))))
    intro bk
    refine cells_eq (show _ = kc 0 z8 from I) (l_e I (e_storeAgg I I Z77 I I I kc_one (Nat.le_of_ble_eq_true I) (cells_eq (kc_all z8_len z8_len) (Nk (Cs I (Lfa U77 I sizeOf75 I (Lq I (q_sliceArr I U75 Z5 I) (Lm I (l_e I (e_copyS I I I U23 Z5 I I (by omega) (by show 0 + 1 + s.size ≤ _; rw [kc_len z8_len]; omega) ?_))))))))))
    refine cells_eq (cs' := (kof s hyes).c) ?_ ?_
    · have hput := kc_put (n := (s.size : Int)) (l := byt s) (by omega)
      unfold byt at hput
      rw [List.map_map] at hput
      refine hput.trans ?_
      show _ = kc ((byt s).length : Int) (byt s ++ List.replicate (8 - (byt s).length) 0)
      rw [hbl]; unfold byt; rw [List.length_map, Array.length_toList]; rfl
    refine Nk (Cs I (Lq I (q_loadCAgg ((kof s hyes).c) I G77 Z77 I (Hat 0 I) (kv_whole _) (Kv.c_len _)) (pull1 (l_e I (e_storeAgg I I Z77 I I (Kv.c_len _) (Kv.one _) (by rw [Kv.c_len, kc_len z8_len]; decide) (cells_eq (Sep.splice_all (by rw [Kv.c_len, kc_len z8_len])) (Ak I (c_ret (r_res2 I (res_cellA I G77 Z77 (Hat 0 I) (Kv.c_len _)) (show Sep.look _ _ = some _ from I) ?_)))))))))
    exact fun _ h => ⟨(), by rw [dif_pos hyes], trivial, h.nothing⟩
theorem text_spec (k : Kv 8) : Con Tryz.prog 225 [.agg k.c.toArray] (fun _ => True) [] (fun _ : Unit => .string (strOfNums (tx k))) (fun _ => True) (fun _ => []) := by
  intro w hE hH
  refine enter (n := 11) (vs := [.agg k.c.toArray]) (St w [] []) func225 I I I (St.init hH) ?_
  refine Cs I (l_e I (e_box I I I I ?_))
  intro bk
  refine cells_eq (show _ = k.c from I) (Ak I (c_seq (Cs I (Lq I (q_loadCAgg (k.c) I G77 Z77 I (Hat 0 I) (kv_whole _) (Kv.c_len _)) (l_e I (e_call_00 (kcheck_spec k) I I I call279 I Tt ?_))))))
  intro _ _
  refine Lq I (q_not I I) (Nk ?_)
  refine Pre.caseB 5 I (fun h1 => ?_) (fun h1 => ?_)
  · try simp only [B4] at h1
    have ht : tx k = [] := by unfold tx; rw [h1]; rfl
    refine c_true I (Cs I (Ak I (c_ret (k_then_ret (r_one I I ?_)))))
    exact fun _ h => ⟨(), by rw [ht]; rfl, trivial, h.nothing⟩
  · try simp only [B4] at h1
    obtain ⟨m, hm, hm8, ht, htl, htb⟩ := kck_parts h1
    have hkl := k.len
    refine c_false I (c_skip (Kt (Cs I (Lfa U77 I sizeOf75 I (Lfa U77 I Z3 I (Lo G3 0 I (Lq I (q_sliceArrH m I U75 Z5 I I hm (by omega)) (Lq I (q_b2s (l := k.b.take m) I U23 U5 U9 I (fun _ h => rd_part (h.at 0 I) (encI .u8) (k.b.take m) (by rw [List.length_take]; omega) (by omega) (kc_part (by omega)))) (Ak I (c_ret (r_one I I ?_)))))))))))
    exact fun _ h => ⟨(), by rw [ht], trivial, h.nothing⟩
theorem cmp_find : Extern.find Tryz.f301 = some Extern.BytealgCompare.compare := by kernel_rfl
theorem e_cmpS {P : Program} {n : Nat} {L : Env} {X : World → Prop} {o : Oper} {Q : Exit → Act → World → Prop} {K : Act → World → Prop} {f : FuncId} {fn : Func} {x y : Operand} {ts : Array TypeId} {d : Nat} {a b : ByteArray} (ho : o.op = .call ⟨.value (.func f), [x, y].toArray, ts⟩) (hd : o.dst = some d) (hnn : d.blt n = true) (hfn : P.funcs[f]? = some fn) (hb : fn.body.isNone = true) (hname : (fn.name == "runtime.NumGoroutine") = false) (hn : Extern.findNext fn = none) (he : Extern.find fn = some Extern.BytealgCompare.compare)
    (hx : ev L x = some (.string a)) (hy : ev L y = some (.string b)) (h : Pre n ((d, .int .i64 (Lib.compareBytes a.data.toList b.data.toList)) :: L) X K) : EOp P n L X o Q K :=
  EOp.val (β := Unit) (fun _ => .int .i64 (Lib.compareBytes a.data.toList b.data.toList)) (fun _ => True) (fun _ => X) hd hnn (fun ac w kn hX => by
    have hc := run_callFunc_extern hfn hname hb hn he #[.string a, .string b] w
    rw [Lib.run_compareString a b w] at hc
    simp only [Result.andThen_ok] at hc
    have hargs : ([x, y].toArray.map ac.eval) = #[.string a, .string b] := by simp [kn.eval hx, kn.eval hy]
    have h0 : ∀ us : Array Value, (#[] ++ us ++ #[]) = us := fun us => by simp
    exact ⟨(), w, by simp only [execOp, ho, resolve, Act.eval, Deferred.ofValue, Sem.run_bind, Sem.run_pure, Result.andThen_ok, invoke, hargs, h0, hc], trivial, hX⟩) (fun _ _ => h)
theorem bcmp_spec (a b : ByteArray) : Con Tryz.prog 278 [.string a, .string b] (fun _ => True) [] (fun _ : Unit => .int .i64 (Lib.compareBytes a.data.toList b.data.toList)) (fun _ => True) (fun _ => []) := by
  intro w hE hH
  refine enter (n := 8) (vs := [.string a, .string b]) (St w [] []) func278 I I I (St.init hH) ?_
  refine Cs I (Ak I (Cs I (Lm I (Lm I (l_e I (e_cmpS I I I func301 I (by kernel_rfl) I cmp_find I I (Ak I (c_ret (r_one I I ?_)))))))))
  exact fun _ h => ⟨(), rfl, trivial, h⟩
theorem scmp_spec (a b : ByteArray) : Con Tryz.prog 224 [.string a, .string b] (fun _ => True) [] (fun _ : Unit => .int .i64 (Lib.compareBytes a.data.toList b.data.toList)) (fun _ => True) (fun _ => []) := by
  intro w hE hH
  refine enter (n := 8) (vs := [.string a, .string b]) (St w [] []) func224 I I I (St.init hH) ?_
  refine Cs I (Ak I (Cs I (Lm I (Lm I (l_e I (e_call_00 (bcmp_spec a b) I I I call278 I Tt ?_))))))
  intro _ _
  refine Ak I (c_ret (r_one I I ?_))
  exact fun _ h => ⟨(), rfl, trivial, h⟩
theorem cmp_spec (a b : Kv 8) : Con Tryz.prog 162 [.agg a.c.toArray, .agg b.c.toArray] (fun _ => True) [] (fun _ : Unit => .int .i64 (kcmp a b)) (fun _ => True) (fun _ => []) := by
  intro w hE hH
  have hc : kcmp a b = Lib.compareBytes (strOfNums (tx a)).data.toList (strOfNums (tx b)).data.toList := (lex_cmp (tx a) (tx b) (fun x hx => tx_byte hx) (fun x hx => tx_byte hx)).symm
  refine enter (n := 10) (vs := [.agg a.c.toArray, .agg b.c.toArray]) (St w [] []) func162 I I I (St.init hH) ?_
  refine Cs I (l_e I (e_box I I I I ?_))
  intro ba
  refine cells_eq (show _ = a.c from I) (l_e I (e_box I I I I ?_))
  intro bb
  refine cells_eq (show _ = b.c from I) (Ak I (c_seq (D4 [(0,O),(2,O),(1,V),(3,V),(4,V),(5,O)] [] [(_,O),(_,O),(_,V),(_,V),(_,V),(_,O)] (fun w2 => (cellsE ba 77 a.c).at w2 ∧ (cellsE bb 77 b.c).at w2) I I I I St.drawn (H2 1 0 I) (Dq I (q_loadCAgg (a.c) I G77 Z77 I (fun _ h => h.1) (kv_whole _) (Kv.c_len _)) (Dq I (q_loadCAgg (b.c) I G77 Z77 I (fun _ h => h.2) (kv_whole _) (Kv.c_len _)) (d_e I (e_call_00 (text_spec a) I I I call225 I Tt ?_)))))))
  intro _ _
  refine d_held (H2 1 0 I) (d_e I (e_call_00 (text_spec b) I I I call225 I Tt ?_))
  intro _ _
  refine d_held (H2 1 0 I) (d_e I (e_call_00 (scmp_spec _ _) I I I call224 I Tt ?_))
  intro _ _
  refine d_held (H2 1 0 I) (Das I (d_nil (Kt (c_ret (r_one I I ?_)))))
  exact fun _ h => ⟨(), by rw [hc], trivial, h.nothing⟩
theorem vcheck_con (k : Kv 16) : Con Tryz.prog 316 [.agg k.c.toArray] (fun _ => True) [] (fun _ : Unit => .bool (vck k)) (fun _ => True) (fun _ => []) := con_of (fun w _ => check_any k.n k.b w k.len k.wb)
theorem rvcheck_con (k : Kv 16) : Con Tryz.prog 61 [.agg k.c.toArray] (fun _ => True) [] (fun _ : Unit => .bool (vck k)) (fun _ => True) (fun _ => []) := con_of (fun w _ => rcheck_any k.n k.b w k.len)
theorem plus_con (k : Kv 16) (z : Int) : Con Tryz.prog 223 [.agg k.c.toArray, .int .u64 z] (fun _ => True) [] (fun _ : Unit => .agg (vplus k z).c.toArray) (fun _ => True) (fun _ => []) := con_of (fun w _ => plus_any k.n k.b z w k.len k.wb)
def vof (s : ByteArray) (h : s.size ≤ 16) : Kv 16 := ⟨s.size, pad (byt s) 16, pad_length _ _ (by rw [byt_length]; exact h), wf_n8 (by omega), wf_pad 16 (byt_wf s)⟩
theorem vof_con (s : ByteArray) (h : s.size ≤ 16) : Con Tryz.prog 126 [.string s] (fun _ => True) [] (fun _ : Unit => .tuple #[.agg (vof s h).c.toArray, .int .i64 0]) (fun _ => True) (fun _ => []) := con_of (fun w _ => vof_ok s w h)
theorem mapply_spec (v : Kv 16) (t : Bool) (m : Ms) : Con Tryz.prog 159 [.agg v.c.toArray, .bool t, .agg m.c.toArray] (fun _ => True) [] (fun _ : Unit => .tuple #[.agg (map' v t m).1.c.toArray, .bool (map' v t m).2]) (fun _ => True) (fun _ => []) := by
  intro w hE hH
  refine enter (n := 24) (vs := [.agg v.c.toArray, .bool t, .agg m.c.toArray]) (St w [] []) func159 I I I (St.init hH) ?_
  refine Cs I (l_e I (e_box I I I I ?_))
  intro bv
  refine cells_eq (show _ = v.c from I) (l_e I (e_box I I I I ?_))
  intro bm
  refine cells_eq (show _ = m.c from I) (l_e I (e_alloc I I I zeroValue56 ?_))
  intro br
  refine cells_eq (show _ = (kv0 16).c from I) (Ak I (c_seq (Cs I (Lfa U154 I Z3 I (Lo G3 1 I (Nk (c_block (Cs I (Lq I (q_eql I I I) (Ak I ?_))))))))))
  refine Pre.caseB 10 I (fun h1 => ?_) (fun h1 => ?_)
  · try simp only [B4] at h1
    refine c_true I (Cs I (Lfa U154 I Z56 I (Lq I (q_loadCAgg (m.val.c) I G56 Z56 I (Hat 1 I) (Ms.val_part _) (Kv.c_len _)) (l_e I (e_storeAgg I I Z56 I I (Kv.c_len _) (Kv.one _) (by simp only [Kv.c_len, Ms.c_len]; decide) (cells_eq (show _ = m.val.c from Sep.splice_all (by simp only [Kv.c_len, Ms.c_len])) (Ak I (c_ret (k_block_ret (k_then_ret (r_res2 I (res_cellA I G56 Z56 (Hat 0 I) (Kv.c_len _)) (show Sep.look _ _ = some _ from I) ?_)))))))))))
    exact fun _ h => ⟨(), congrArg (fun z : Kv 16 × Bool => Ending.returned (Value.tuple #[.agg (Kv.c z.1).toArray, .bool z.2])) (show (m.val, true) = map' v t m from by
      unfold map'
      simp_all), trivial, h.nothing⟩
  · try simp only [B4] at h1
    refine c_false I (Cs I (Lq I (q_eql I I I) (Ak I ?_)))
    refine Pre.caseB 14 I (fun h2 => ?_) (fun h2 => ?_)
    · try simp only [B4] at h2
      refine c_true I (c_seq (Cs I (Lm I (Lq I (q_not I I) (Nk ?_)))))
      refine Pre.caseB 17 I (fun h3 => ?_) (fun h3 => ?_)
      · try simp only [B4] at h3
        refine c_true I (Cr I (Lq I (q_build ((kv0 16).c) I I (fun w => by kernel_rfl)) (pull2 (l_e I (e_storeAgg I I Z56 I I (Kv.c_len _) (Kv.one _) (by simp only [Kv.c_len, Ms.c_len]; decide) (cells_eq (show _ = (kv0 16).c from Sep.splice_all (by simp only [Kv.c_len, Ms.c_len])) (Nk (Cs I (Lq I (q_loadCAgg ((kv0 16).c) I G56 Z56 I (Hat 0 I) (kv_whole _) (Kv.c_len _)) (Lfa U154 I Z41 I (Lq I (q_loadC I G41 I (Hat 2 I) (Ms.by_part _)) (l_e I (e_call_00 (plus_con (kv0 16) _) I I I call223 I Tt ?_)))))))))))))
        intro _ _
        refine pull1 (l_e I (e_storeAgg I I Z56 I I (Kv.c_len _) (Kv.one _) (by simp only [Kv.c_len, Ms.c_len]; decide) (cells_eq (show _ = (vplus (kv0 16) m.by').c from Sep.splice_all (by simp only [Kv.c_len, Ms.c_len])) (Ak I (c_ret (k_block_ret (k_then_ret (r_res2 I (res_cellA I G56 Z56 (Hat 0 I) (Kv.c_len _)) (show Sep.look _ _ = some _ from I) ?_))))))))
        exact fun _ h => ⟨(), congrArg (fun z : Kv 16 × Bool => Ending.returned (Value.tuple #[.agg (Kv.c z.1).toArray, .bool z.2])) (show ((vplus (kv0 16) m.by'), true) = map' v t m from by
          unfold map'
          simp_all), trivial, h.nothing⟩
      · try simp only [B4] at h3
        refine c_false I (c_skip (Kt (Cs I (Lq I (q_loadCAgg (v.c) I G56 Z56 I (Hat 2 I) (kv_whole _) (Kv.c_len _)) (Lfa U154 I Z41 I (Lq I (q_loadC I G41 I (Hat 1 I) (Ms.by_part _)) (l_e I (e_call_00 (plus_con v _) I I I call223 I Tt ?_))))))))
        intro _ _
        refine l_e I (e_storeAgg I I Z56 I I (Kv.c_len _) (Kv.one _) (by simp only [Kv.c_len, Ms.c_len]; decide) (cells_eq (show _ = (vplus v m.by').c from Sep.splice_all (by simp only [Kv.c_len, Ms.c_len])) (Ak I (c_ret (k_block_ret (k_then_ret (r_res2 I (res_cellA I G56 Z56 (Hat 0 I) (Kv.c_len _)) (show Sep.look _ _ = some _ from I) ?_)))))))
        exact fun _ h => ⟨(), congrArg (fun z : Kv 16 × Bool => Ending.returned (Value.tuple #[.agg (Kv.c z.1).toArray, .bool z.2])) (show ((vplus v m.by'), true) = map' v t m from by
          unfold map'
          simp_all), trivial, h.nothing⟩
    · try simp only [B4] at h2
      refine c_false I (c_skip (k_block (Kt (Cs I (Lq I (q_build ((kv0 16).c) I I (fun w => by kernel_rfl)) (l_e I (e_storeAgg I I Z56 I I (Kv.c_len _) (Kv.one _) (by simp only [Kv.c_len, Ms.c_len]; decide) (cells_eq (show _ = (kv0 16).c from Sep.splice_all (by simp only [Kv.c_len, Ms.c_len])) (Ak I (c_ret (r_res2 I (res_cellA I G56 Z56 (Hat 0 I) (Kv.c_len _)) (show Sep.look _ _ = some _ from I) ?_)))))))))))
      exact fun _ h => ⟨(), congrArg (fun z : Kv 16 × Bool => Ending.returned (Value.tuple #[.agg (Kv.c z.1).toArray, .bool z.2])) (show ((kv0 16), false) = map' v t m from by
        unfold map'
        simp_all), trivial, h.nothing⟩
section
variable {n : Nat} {L : Env} {X : World → Prop} {o : Oper}
end
theorem rd_nil {α : Type} {w : World} (E : Enc α) : RdV w nil0 E ([] : List α) := ⟨none, 0, rfl, Nat.le_refl _, .inl rfl⟩
theorem rd_sv {α : Type} {w : World} {v : Value} {E : Enc α} {l : List α} (h : RdV w v E l) : ∃ s : Sv, v = s.v := by
  obtain ⟨a, c, rfl, _⟩ := h; exact ⟨⟨a, l.length, c⟩, rfl⟩
theorem RdV.keepE {α : Type} {w0 w : World} {D : List Nat} {H : List Ent} {v : Value} {E : Enc α} {l : List α} (h : RdV w0 v E l) (s : St w0 D H w) (hD : blk v ∉ D ∨ l = []) : RdV w v E l := by
  rcases hD with hD | rfl
  · exact h.keep s hD
  · obtain ⟨a, c, e, hc, _⟩ := h; exact ⟨a, c, e, hc, .inl rfl⟩
theorem index_spec {va : Value} (l : List Int) (x : Int) (hn : l.length ≤ 65536) : Con Tryz.prog 157 [va, .int .i64 x] (fun w => RdV w va (encI .i64) l) [] (fun _ : Unit => .int .i64 (io (fst1 (fun z => decide (z = x)) l))) (fun _ => True) (fun _ => []) := by
  intro w hl hH
  refine enter (n := 19) (vs := [va, .int .i64 x]) (St w [] []) func157 I I I (St.init hH) ?_
  refine Cs I (Ak I (c_seq (Cs I (Lm I (Lq I (q_lenV I U22 I (fun _ h => hl.keep h (by simp [dom]))) (Lm I (Nk (c_block ?_))))))))
  refine c_loop1 (fun (k : Nat) => [(0, va), (1, .int .i64 x), (7, .int .i64 (l.length : Int)), (8, .int .i64 (k : Int))]) (fun (k : Nat) => St w [] []) (fun (k : Nat) => k ≤ l.length ∧ ∀ z ∈ l.take k, decide (z = x) = false) (fun (k : Nat) => l.length - k) (0) ⟨Nat.zero_le _, by simp⟩ (Sn I (Sn I (Sn I (Sn I (Sub.nil))))) Ih ?_
  intro k hp
  refine c_seq ?_
  obtain ⟨hk, hx⟩ := hp
  refine Cr I (Lq I (q_lss I I I) (Ns ?_))
  refine Pre.caseB 9 I (fun hlt => ?_) (fun hlt => ?_)
  · simp only [B4] at hlt
    obtain ⟨y, hy⟩ : ∃ y, l[k]? = some y := ⟨_, List.getElem?_eq_getElem (by omega)⟩
    refine c_true I (c_skip (Ks (c_block (Cs I (Lm I (Ak I (Cs I (Lm I (Lm I (Lm I (Lq I (q_indexV k I U22 Z3 I (fun _ h => hl.keep h (by simp [dom])) I I (by omega)) (Lq I (q_loadV k 0 I G3 I I (fun _ h => hl.keep h (by simp [dom])) hy I) (Lq I (q_eql I I I) (Nk ?_))))))))))))))
    refine Pre.caseB 16 I (fun he => ?_) (fun he => ?_)
    · simp only [B4] at he
      refine c_true I (Cs I (Lm I (Ak I (c_ret (k_block_ret (k_then_ret (k_then_ret (k_block_ret (k_then_ret (r_one I I ?_))))))))))
      exact fun _ h => ⟨(), congrArg (fun z => Ending.returned (Value.int .i64 z)) (by rw [fst1_some hy (decide_eq_true he.symm) hx]; rfl), trivial, h⟩
    · simp only [B4] at he
      refine c_false I (c_skip (k_block (Kt (Cr I (Lq I (q_inc I I I (by omega)) (Lm I (l_nil ?_)))))))
      exact k_round (k + 1) (by omega) ⟨by omega, take_none hx hy (decide_eq_false (fun e => he e.symm))⟩ (Sub.cons I (Sub.cons I (Sub.cons I (Sub.cons I (Sub.nil))))) (fun _ h => h)
  · simp only [B4] at hlt
    refine c_false I (c_exit (k_then_exit (k_then_exit (k_block_exit (Kt (Cs I (Ak I (c_ret (r_one I I ?_)))))))))
    exact fun _ h => ⟨(), congrArg (fun z => Ending.returned (Value.int .i64 z)) (by rw [List.take_of_length_le (by omega)] at hx; rw [fst1_none hx]; rfl), trivial, h⟩
theorem contains_spec {va : Value} (l : List Int) (x : Int) (hn : l.length ≤ 65536) : Con Tryz.prog 105 [va, .int .i64 x] (fun w => RdV w va (encI .i64) l) [] (fun _ : Unit => .bool (fst1 (fun z => decide (z = x)) l).isSome) (fun _ => True) (fun _ => []) := by
  intro w hl hH
  refine enter (n := 9) (vs := [va, .int .i64 x]) (St w [] []) func105 I I I (St.init hH) ?_
  refine Cs I (Ak I (Cs I (Lm I (Lm I (l_e I (e_call_00 (index_spec l x hn) I I I call157 I (fun _ h => hl.keep h (by simp)) ?_))))))
  intro _ _
  refine Lq I (q_geq I I I) (Ak I (c_ret (r_one I I ?_)))
  exact fun _ h => ⟨(), congrArg (fun z => Ending.returned (Value.bool z)) io_ge, trivial, h⟩
theorem isof_spec (y : Wn) (b : Nat) (t : Int) : Con Tryz.prog 256 [.agg y.c.toArray, .pointer (some ⟨b, 0, none⟩)] (fun _ => True) [cellsE b 3 [.int .i64 t]] (fun _ : Unit => .bool (decide (y.t = t))) (fun _ => True) (fun _ => [cellsE b 3 [.int .i64 t]]) := by
  intro w hE hH
  refine enter (n := 8) (vs := [.agg y.c.toArray, .pointer (some ⟨b, 0, none⟩)]) (St w [b] [cellsE b 3 [.int .i64 t]]) func256 I I I (St.init hH) ?_
  refine Cs I (l_e I (e_box I I I I ?_))
  intro b1
  refine Ak I (Cs I (Lfa U277 I Z3 I (Lo G3 0 I (Lo G3 1 I (Lq I (q_eql I I I) (Ak I (c_ret (r_one I I ?_))))))))
  exact fun _ h => ⟨(), rfl, trivial, h.drop⟩
theorem indexf_spec {va : Value} (l : List Wn) (b : Nat) (hb : blk va ≠ b ∨ l = []) (t : Int) (hn : l.length ≤ 65536) : Con Tryz.prog 255 [va, .func (.func 256) #[] #[.pointer (some ⟨b, 0, none⟩)]] (fun w => RdV w va Wn.enc l) [cellsE b 3 [.int .i64 t]] (fun _ : Unit => .int .i64 (io (fst1 (fun z => decide (z.t = t)) l))) (fun _ => True) (fun _ => [cellsE b 3 [.int .i64 t]]) := by
  intro w hl hH
  refine enter (n := 19) (vs := [va, .func (.func 256) #[] #[.pointer (some ⟨b, 0, none⟩)]]) (St w [b] [cellsE b 3 [.int .i64 t]]) func255 I I I (St.init hH) ?_
  refine Cs I (Ak I (c_seq (Cs I (Lm I (Lq I (q_lenV I U255 I (fun _ h => RdV.keepE hl h (by simpa [dom, cellsE] using hb))) (Lm I (Nk (c_block ?_))))))))
  refine c_loop1 (fun (k : Nat) => [(0, va), (1, .func (.func 256) #[] #[.pointer (some ⟨b, 0, none⟩)]), (7, .int .i64 (l.length : Int)), (8, .int .i64 (k : Int))]) (fun (k : Nat) => St w [b] [cellsE b 3 [.int .i64 t]]) (fun (k : Nat) => k ≤ l.length ∧ ∀ z ∈ l.take k, decide (z.t = t) = false) (fun (k : Nat) => l.length - k) (0) ⟨Nat.zero_le _, by simp⟩ (Sn I (Sn I (Sn I (Sn I (Sub.nil))))) Ih ?_
  intro k hp
  refine c_seq ?_
  obtain ⟨hk, hx⟩ := hp
  refine Cr I (Lq I (q_lss I I I) (Ns ?_))
  refine Pre.caseB 9 I (fun hlt => ?_) (fun hlt => ?_)
  · simp only [B4] at hlt
    obtain ⟨y, hy⟩ : ∃ y, l[k]? = some y := ⟨_, List.getElem?_eq_getElem (by omega)⟩
    refine c_true I (c_skip (Ks (c_block (Cs I (Lm I (Ak I (Cs I (Lm I (Lm I (Lm I (Lq I (q_indexV k I U255 Z277 I (fun _ h => RdV.keepE hl h (by simpa [dom, cellsE] using hb)) I I (by omega)) (Lq I (q_loadVAgg k I G277 Z277 I I (fun _ h => RdV.keepE hl h (by simpa [dom, cellsE] using hb)) hy) (l_e I (e_callV (β := Unit) (X' := fun _ => St w _ [cellsE b 3 [.int .i64 t]]) (v := fun _ => .bool (decide (y.t = t))) (p := fun _ => True) I I I I call256 I (fun w2 h => Con.frame (F := []) (isof_spec y b t) h trivial) ?_))))))))))))))
    intro _ _
    refine Nk ?_
    refine Pre.caseB 16 I (fun he => ?_) (fun he => ?_)
    · simp only [B4] at he
      refine c_true I (Cs I (Lm I (Ak I (c_ret (k_block_ret (k_then_ret (k_then_ret (k_block_ret (k_then_ret (r_one I I ?_))))))))))
      exact fun _ h => ⟨(), congrArg (fun z => Ending.returned (Value.int .i64 z)) (by rw [fst1_some hy (decide_eq_true he) hx]; rfl), trivial, h⟩
    · simp only [B4] at he
      refine c_false I (c_skip (k_block (Kt (Cr I (Lq I (q_inc I I I (by omega)) (Lm I (l_nil ?_)))))))
      exact k_round (k + 1) (by omega) ⟨by omega, take_none hx hy (decide_eq_false he)⟩ (Sub.cons I (Sub.cons I (Sub.cons I (Sub.cons I (Sub.nil))))) (fun _ h => h)
  · simp only [B4] at hlt
    refine c_false I (c_exit (k_then_exit (k_then_exit (k_block_exit (Kt (Cs I (Ak I (c_ret (r_one I I ?_)))))))))
    exact fun _ h => ⟨(), congrArg (fun z => Ending.returned (Value.int .i64 z)) (by rw [List.take_of_length_le (by omega)] at hx; rw [fst1_none hx]; rfl), trivial, h⟩
theorem deletew_spec {v : Value} (l : List Wn) (i : Nat) (hi : i < l.length) (hn : l.length ≤ 65536) : Con Tryz.prog 284 [v, .int .i64 (i : Int), .int .i64 ((i : Int) + 1)] (fun _ => True) [rowE v 277 Wn.enc l] (fun v : Value => v) (fun _ => True) (fun v => [rowE v 277 Wn.enc (l.eraseIdx i)]) := by
  intro w hE hH
  obtain ⟨bb, oo, cc, rfl⟩ := rd_open (rowE_rd (hH.holds _ (List.mem_cons_self ..))) (show 0 < l.length by omega)
  refine enter (n := 33) (vs := [(.slice (some ⟨bb, oo, none⟩) l.length cc), .int .i64 (i : Int), .int .i64 ((i : Int) + 1)]) (St w (dom [rowE (.slice (some ⟨bb, oo, none⟩) l.length cc) 277 Wn.enc l]) [rowE (.slice (some ⟨bb, oo, none⟩) l.length cc) 277 Wn.enc l]) func284 I I I (St.init hH) ?_
  refine c_seq (Pre.fact (fun _ h => (h.rd 0 I).cap) ?_)
  intro hcap
  refine Cr I (Ak I (Cs I (Lm I (Lm I (Lm I (Lm I (Lq I (q_lenV I U255 I (Hrd 0 I)) (Lq I (q_slice3 i (i + 1) l.length I U255 Z277 I (Hrd 0 I) I I I I I I (by omega) (by omega) (by omega)) (Ns (Cs I (Lm I (Lm I (Lq I (q_eql I I I) (Nk (Sb 16 false I (decide_eq_false (by omega)) (c_false I (c_skip (Kt (Cs I (Lm I (Lq I (q_lenV I U255 I (Hrd 0 I)) (Ak I (c_seq ?_)))))))))))))))))))))))
  refine D4 [(0,O),(1,O),(2,O),(3,O),(4,O),(5,O),(6,V),(7,O)] [] [(_,O),(_,O),(_,O),(_,O),(_,O),(_,O),(_,V),(_,O)] (fun _ => True) I I I I St.drawn Tt (Dm I (Dm I (Dq I (q_sliceH i I U255 Z277 I I I (by have : l.length ≤ cc := hcap; omega)) (Dm I (Dm I (Dq I (q_sliceL (i + 1) I U255 Z277 I I I (by omega)) (Sv' 22 (vsl (.slice (some ⟨bb, oo, none⟩) l.length cc) Wn.enc.sz 0 i) I (by simp [vsl, add_none]) (Sv' 25 (vsl (.slice (some ⟨bb, oo, none⟩) l.length cc) Wn.enc.sz (i + 1) l.length) rfl (by by_cases h9 : cc = i + 1 <;> simp [vsl, add_none, h9, encI, Wn.enc]) ?_))))))))
  have hcc : l.length ≤ vcap (.slice (some ⟨bb, oo, none⟩) l.length cc) := hcap
  refine d_e I (e_appendIn i I I I U255 U255 Z277 I I (fun _ h => vsl_rd (h.rd 0 I) (lo := i + 1) (hi := l.length) (by omega) (Nat.le_refl _)) (by simp only [List.length_drop, List.length_take]; omega) ?_)
  intro v2 hc2
  refine row_eq (l' := l.eraseIdx i) (by rw [List.take_length, List.eraseIdx_eq_take_drop_succ]) ?_
  have hl2 : (l.eraseIdx i).length = l.length - 1 := by rw [List.length_eraseIdx]; simp; omega
  refine d_held Tt (Das I (d_nil (Kt (Cs I (Lm I (Lm I (Lq I (q_lenV I U255 I (Hrd 0 I)) (Lm I (Lq I (q_sliceC (l.eraseIdx i).length l.length I U255 Z277 I (Hrd 0 I) I I I I (by omega) (by omega)) (l_e I (e_clearTail I I U255 info277 I I (by decide) I (by omega) (by omega) (Nk (Cs I (Lm I (Ak I (c_ret (r_one I I ?_)))))))))))))))))
  exact fun _ h => ⟨v2, rfl, trivial, h⟩
theorem clonee_spec {va : Value} (l : List En) (hn : l.length ≤ 65536) : Con Tryz.prog 220 [va] (fun w => RdV w va En.enc l) [] (fun v : Value => v) (fun _ => True) (fun v => [rowE v 79 En.enc l]) := by
  intro w hl hH
  obtain ⟨a, c, rfl⟩ := rd_sl hl
  refine enter (n := 8) (vs := [.slice a l.length c]) (St w [] []) func220 I I I (St.init hH) ?_
  refine Cs I (Ak I (c_seq (Cs I (Lm I (Lq I (q_eqsl I U49 I I) (Nk ?_))))))
  refine Pre.caseB 4 I (fun hn => ?_) (fun hn => ?_)
  · rw [Option.isNone_iff_eq_none] at hn
    subst hn
    have hl0 := rd_none hl
    subst hl0
    refine c_true I (Cs I (Ak I (c_ret (k_then_ret (row0 79 En.enc none (r_one I I ?_))))))
    exact fun _ h => ⟨_, rfl, trivial, h⟩
  · refine c_false I (c_skip (Kt (Cs I (l_e I (e_buildSliceV (sz := 26) [] I I I I I U49 Z79 I zeroValue79 I ?_)))))
    intro b
    refine rowLit En.enc [] I I (Lm I (l_e I (e_append I I I U49 U49 info79 I I I I I (fun _ h => hl.keep h (by simp)) (by simp only [byt79, List.length_append, List.length_cons, List.length_nil]; omega) (by simp only [List.length_append, List.length_cons, List.length_nil]; omega) ?_)))
    intro v
    refine Ak I (c_ret ?_)
    rw [List.nil_append]
    refine r_one I I ?_
    exact fun _ h => ⟨v, rfl, trivial, h⟩
theorem clonei_spec {va : Value} (l : List Int) (hn : l.length ≤ 65536) : Con Tryz.prog 107 [va] (fun w => RdV w va (encI .i64) l) [] (fun v : Value => v) (fun _ => True) (fun v => [rowE v 3 (encI .i64) l]) := by
  intro w hl hH
  obtain ⟨a, c, rfl⟩ := rd_sl hl
  refine enter (n := 8) (vs := [.slice a l.length c]) (St w [] []) func107 I I I (St.init hH) ?_
  refine Cs I (Ak I (c_seq (Cs I (Lm I (Lq I (q_eqsl I U22 I I) (Nk ?_))))))
  refine Pre.caseB 4 I (fun hn => ?_) (fun hn => ?_)
  · rw [Option.isNone_iff_eq_none] at hn
    subst hn
    have hl0 := rd_none hl
    subst hl0
    refine c_true I (Cs I (Ak I (c_ret (k_then_ret (row0 3 (encI .i64) none (r_one I I ?_))))))
    exact fun _ h => ⟨_, rfl, trivial, h⟩
  · refine c_false I (c_skip (Kt (Cs I (l_e I (e_buildSliceV (sz := 1) [] I I I I I U22 Z3 I zeroValue3 I ?_)))))
    intro b
    refine rowLit (encI .i64) [] I I (Lm I (l_e I (e_append I I I U22 U22 info3 I I I I I (fun _ h => hl.keep h (by simp)) (by simp only [byt3, List.length_append, List.length_cons, List.length_nil]; omega) (by simp only [List.length_append, List.length_cons, List.length_nil]; omega) ?_)))
    intro v
    refine Ak I (c_ret ?_)
    rw [List.nil_append]
    refine r_one I I ?_
    exact fun _ h => ⟨v, rfl, trivial, h⟩
theorem clonek_spec {va : Value} (l : List (Kv 8)) (hn : l.length ≤ 65536) : Con Tryz.prog 221 [va] (fun w => RdV w va (Kv.enc 8) l) [] (fun v : Value => v) (fun _ => True) (fun v => [rowE v 77 (Kv.enc 8) l]) := by
  intro w hl hH
  obtain ⟨a, c, rfl⟩ := rd_sl hl
  refine enter (n := 8) (vs := [.slice a l.length c]) (St w [] []) func221 I I I (St.init hH) ?_
  refine Cs I (Ak I (c_seq (Cs I (Lm I (Lq I (q_eqsl I U132 I I) (Nk ?_))))))
  refine Pre.caseB 4 I (fun hn => ?_) (fun hn => ?_)
  · rw [Option.isNone_iff_eq_none] at hn
    subst hn
    have hl0 := rd_none hl
    subst hl0
    refine c_true I (Cs I (Ak I (c_ret (k_then_ret (row0 77 (Kv.enc 8) none (r_one I I ?_))))))
    exact fun _ h => ⟨_, rfl, trivial, h⟩
  · refine c_false I (c_skip (Kt (Cs I (l_e I (e_buildSliceV (sz := 9) [] I I I I I U132 Z77 I zeroValue77 I ?_)))))
    intro b
    refine rowLit (Kv.enc 8) [] I I (Lm I (l_e I (e_append I I I U132 U132 info77 I I I I I (fun _ h => hl.keep h (by simp)) (by simp only [byt77, List.length_append, List.length_cons, List.length_nil]; omega) (by simp only [List.length_append, List.length_cons, List.length_nil]; omega) ?_)))
    intro v
    refine Ak I (c_ret ?_)
    rw [List.nil_append]
    refine r_one I I ?_
    exact fun _ h => ⟨v, rfl, trivial, h⟩
theorem clonem_spec {va : Value} (l : List Ms) (hn : l.length ≤ 65536) : Con Tryz.prog 222 [va] (fun w => RdV w va Ms.enc l) [] (fun v : Value => v) (fun _ => True) (fun v => [rowE v 154 Ms.enc l]) := by
  intro w hl hH
  obtain ⟨a, c, rfl⟩ := rd_sl hl
  refine enter (n := 8) (vs := [.slice a l.length c]) (St w [] []) func222 I I I (St.init hH) ?_
  refine Cs I (Ak I (c_seq (Cs I (Lm I (Lq I (q_eqsl I U133 I I) (Nk ?_))))))
  refine Pre.caseB 4 I (fun hn => ?_) (fun hn => ?_)
  · rw [Option.isNone_iff_eq_none] at hn
    subst hn
    have hl0 := rd_none hl
    subst hl0
    refine c_true I (Cs I (Ak I (c_ret (k_then_ret (row0 154 Ms.enc none (r_one I I ?_))))))
    exact fun _ h => ⟨_, rfl, trivial, h⟩
  · refine c_false I (c_skip (Kt (Cs I (l_e I (e_buildSliceV (sz := 29) [] I I I I I U133 Z154 I zeroValue154 I ?_)))))
    intro b
    refine rowLit Ms.enc [] I I (Lm I (l_e I (e_append I I I U133 U133 info154 I I I I I (fun _ h => hl.keep h (by simp)) (by simp only [byt154, List.length_append, List.length_cons, List.length_nil]; omega) (by simp only [List.length_append, List.length_cons, List.length_nil]; omega) ?_)))
    intro v
    refine Ak I (c_ret ?_)
    rw [List.nil_append]
    refine r_one I I ?_
    exact fun _ h => ⟨v, rfl, trivial, h⟩
theorem block_spec (x : Int) : Con Tryz.prog 241 [.int .i64 x] (fun _ => True) [] (fun _ : Unit => .bool (bkB x)) (fun _ => True) (fun _ => []) := by
  intro w hE hH
  refine enter (n := 9) (vs := [.int .i64 x]) (St w [] []) func241 I I I (St.init hH) ?_
  refine Cs I (Ak I (Cs I (Lm I (Lq I (q_geq I I I) (Lm I ?_)))))
  refine Pre.caseB 5 I (fun h1 => ?_) (fun h1 => ?_)
  · simp only [B4] at h1
    refine Lm I (Lq I (q_lss I I I) (Lq I (q_pick_t I I I) (Ak I (c_ret (r_one I I ?_)))))
    exact fun _ h => ⟨(), congrArg (fun z => Ending.returned (Value.bool z)) (by unfold bkB; rw [decide_eq_true h1]; rfl), trivial, h⟩
  · simp only [B4] at h1
    refine Lx I (Lx I (Lq I (q_pick_f I I I) (Ak I (c_ret (r_one I I ?_)))))
    exact fun _ h => ⟨(), congrArg (fun z => Ending.returned (Value.bool z)) (by unfold bkB; rw [decide_eq_false (by omega)]; rfl), trivial, h⟩
theorem task_spec (x : Int) : Con Tryz.prog 190 [.int .i64 x] (fun _ => True) [] (fun _ : Unit => .bool (tkB x)) (fun _ => True) (fun _ => []) := by
  intro w hE hH
  refine enter (n := 9) (vs := [.int .i64 x]) (St w [] []) func190 I I I (St.init hH) ?_
  refine Cs I (Ak I (Cs I (Lm I (Lq I (q_geq I I I) (Lm I ?_)))))
  refine Pre.caseB 5 I (fun h1 => ?_) (fun h1 => ?_)
  · simp only [B4] at h1
    refine Lm I (Lq I (q_lss I I I) (Lq I (q_pick_t I I I) (Ak I (c_ret (r_one I I ?_)))))
    exact fun _ h => ⟨(), congrArg (fun z => Ending.returned (Value.bool z)) (by unfold tkB; rw [decide_eq_true h1]; rfl), trivial, h⟩
  · simp only [B4] at h1
    refine Lx I (Lx I (Lq I (q_pick_f I I I) (Ak I (c_ret (r_one I I ?_)))))
    exact fun _ h => ⟨(), congrArg (fun z => Ending.returned (Value.bool z)) (by unfold tkB; rw [decide_eq_false (by omega)]; rfl), trivial, h⟩
end Go.Proofs.YtloldofjddbjoaaGreat
namespace Go.Proofs.YtloldofjddbjoaaGreat
open Go.Sep Go.RowKit Tryz
theorem opt_cases {α : Type} {Q : Prop} (o : Option α) (h1 : o = none → Q) (h2 : ∀ i, o = some i → Q) : Q := by cases o with
  | none => exact h1 rfl
  | some i => exact h2 i rfl
theorem e_q {P : Program} {n : Nat} {L : Env} {X : World → Prop} {o : Oper} {Q : Exit → Act → World → Prop} {K : Act → World → Prop} {v : Value} {d : Nat} (hd : o.dst = some d) (hn : d.blt n = true) (hq : QOp P n L X o v) (h : Pre n ((d, v) :: L) X K) : EOp P n L X o Q K :=
  EOp.val (β := Unit) (fun _ => v) (fun _ => True) (fun _ => X) hd hn (fun a w k x => ⟨(), w, hq a w k x, trivial, x⟩) (fun _ _ => h)
abbrev kI : Int → Value := Value.int .i64
abbrev vS (q : Sv × List Int) : Value := q.1.v
theorem keyI : KeyOk Tryz.prog 3 kI := keyOk_int .i64 U3
def wn (q : Int × Int) : Wn := ⟨q.1, q.2, decide (q.2 = -1)⟩
structure CS where
  vF : Value
  fl : List FC
  bA : Nat
  at' : List (Int × Int)
  bL : Nat
  ld : List (Int × (Sv × List Int))
  vL : Value
  ln : List Wn
  hand : Int
namespace CS
def cells (S : CS) : List Value := [S.vF, .map (some S.bA), .map (some S.bL), S.vL, .int .i64 S.hand]
def rows (S : CS) : List Ent := S.ld.map (fun q => rowE q.2.1.v 3 (encI .i64) q.2.2)
def H (bc : Nat) (S : CS) : List Ent := [cellsE bc 257 S.cells, rowE S.vF 259 FC.enc S.fl, mapT S.bA kI kI S.at', mapT S.bL kI vS S.ld, rowE S.vL 277 Wn.enc S.ln] ++ S.rows
end CS
structure CR (w : World) (bc : Nat) (S : CS) : Prop where
  c : (cellsE bc 257 S.cells).at w
  f : RdV w S.vF FC.enc S.fl
  a : (mapT S.bA kI kI S.at').at w
  m : (mapT S.bL kI vS S.ld).at w
  l : RdV w S.vL Wn.enc S.ln
  r : ∀ q ∈ S.ld, RdV w q.2.1.v (encI .i64) q.2.2
theorem CR.of {w0 w : World} {D : List Nat} {bc : Nat} {S : CS} {F : List Ent} (h : St w0 D (S.H bc ++ F) w) : CR w bc S :=
  ⟨h.at 0 rfl, h.rd 1 rfl, h.at 2 rfl, h.at 3 rfl, h.rd 4 rfl, fun q hq => rowE_rd (h.hp.holds _ (List.mem_append_left _ (List.mem_append_right _ (List.mem_map.2 ⟨q, hq, rfl⟩))))⟩
theorem CR.keep {w0 w : World} {bc : Nat} {S : CS} {H : List Ent} (h : CR w0 bc S) (s : St w0 [] H w) : CR w bc S :=
  ⟨cellsE_keep h.c s (by simp), h.f.keep s (by simp), mapT_keep h.a s (by simp), mapT_keep h.m s (by simp), h.l.keep s (by simp), fun q hq => (h.r q hq).keep s (by simp)⟩
structure Rel (S : CS) (M : Mo) : Prop where
  fr : S.fl.map vw = M.fr
  ln : S.ln = M.line.map wn
  hd : S.hand = M.hand
  at' : ∀ b, mget b S.at' = Option.map (fun i : Nat => (i : Int)) (M.find b)
  ld : ∀ b, M.told b = match mget b S.ld with | some q => q.2 | none => []
  nd : (S.ld.map Prod.fst).Nodup
  na : (S.at'.map Prod.fst).Nodup
theorem Rel.len {S : CS} {M : Mo} (h : Rel S M) : S.fl.length = M.fr.length := by rw [← h.fr, List.length_map]
theorem Rel.lnl {S : CS} {M : Mo} (h : Rel S M) : S.ln.length = M.line.length := by rw [h.ln, List.length_map]
theorem Rel.get {S : CS} {M : Mo} (h : Rel S M) {i : Nat} {y : Vw} (hy : M.fr[i]? = some y) : ∃ f, S.fl[i]? = some f ∧ vw f = y := by
  rw [← h.fr, List.getElem?_map, Option.map_eq_some_iff] at hy; exact hy
theorem Rel.vw_at {S : CS} {M : Mo} (h : Rel S M) {i : Nat} {f : FC} (hf : S.fl[i]? = some f) : M.fr[i]? = some (vw f) := by rw [← h.fr, List.getElem?_map, hf]; rfl
theorem at_eq {M : Mo} {i : Nat} {y : Vw} (h : M.fr[i]? = some y) : M.at' i = y := by unfold Mo.at'; rw [List.getD_eq_getElem?_getD, h]; rfl
theorem find_at {M : Mo} {b : Int} {i : Nat} (h : M.find b = some i) : ∃ y, M.fr[i]? = some y ∧ y.blk = b ∧ (y.st = 1 ∨ y.st = 2) ∧ M.at' i = y := by
  obtain ⟨y, h1, h2, _⟩ := fst1_at h
  simp only [isB, Bool.and_eq_true, Bool.or_eq_true, decide_eq_true_eq] at h2
  exact ⟨y, h1, h2.1, h2.2, at_eq h1⟩
theorem frI_at {M : Mo} {b st : Int} {i : Nat} (h : M.frI b st = some i) : M.find b = some i ∧ (M.at' i).st = st := by
  unfold Mo.frI at h
  split at h
  · rename_i j hj
    split at h
    · rename_i hs; cases h; exact ⟨hj, hs⟩
    · cases h
  · cases h
abbrev fp (v : Value) (i : Nat) : Value := .pointer (some ⟨blk v, offs v + i * 11, none⟩)
def fpo (v : Value) : Option Nat → Value
  | some i => fp v i
  | none => .pointer none
theorem wn_t (q : Int × Int) : (wn q).t = q.1 := rfl
theorem stand_eq {S : CS} {M : Mo} (h : Rel S M) (t : Int) : fst1 (fun z : Wn => decide (z.t = t)) S.ln = M.stand t := by
  rw [h.ln]; unfold Mo.stand; rw [fst1_map]; rfl
theorem stand_at {M : Mo} {t : Int} {i : Nat} (h : M.stand t = some i) : ∃ q, M.line[i]? = some q ∧ q.1 = t := by
  obtain ⟨q, h1, h2, _⟩ := fst1_at h; exact ⟨q, h1, of_decide_eq_true h2⟩
theorem mget_mem {α β : Type} [DecidableEq α] {a : α} {y : β} : ∀ {l : List (α × β)}, mget a l = some y → (a, y) ∈ l
  | [], h => by cases h
  | (x, z) :: l, h => by
    simp only [mget] at h
    split at h
    · rename_i e; cases h; subst e; exact List.mem_cons_self ..
    · exact List.mem_cons_of_mem _ (mget_mem h)
theorem mem_mget {α β : Type} [DecidableEq α] {a : α} {y : β} : ∀ {l : List (α × β)}, (l.map Prod.fst).Nodup → (a, y) ∈ l → mget a l = some y
  | [], _, h => by cases h
  | (x, z) :: l, hn, h => by
    obtain ⟨h1, h2⟩ := List.nodup_cons.1 hn
    simp only [mget]
    rcases List.mem_cons.1 h with h5 | h5
    · cases h5; rw [if_pos rfl]
    · rw [if_neg (fun e => h1 (by subst e; exact List.mem_map.2 ⟨_, h5, rfl⟩))]; exact mem_mget h2 h5
theorem mput_keys {β : Type} (a : Int) (v : β) : ∀ {l : List (Int × β)}, (l.map Prod.fst).Nodup → ((mput a v l).map Prod.fst).Nodup
  | [], _ => by simp [mput]
  | (x, y) :: l, h => by
    obtain ⟨h1, h2⟩ := List.nodup_cons.1 h
    simp only [mput]
    split
    · rename_i e; subst e; exact List.nodup_cons.2 ⟨h1, h2⟩
    · rename_i e
      refine List.nodup_cons.2 ⟨fun hm => ?_, mput_keys a v h2⟩
      have : ∀ {l : List (Int × β)}, x ∈ (mput a v l).map Prod.fst → x = a ∨ x ∈ l.map Prod.fst := by
        intro l
        induction l with
        | nil => intro h; simp [mput] at h; exact .inl h
        | cons p l ih =>
          intro h
          simp only [mput] at h
          split at h
          · rename_i e2
            rcases List.mem_cons.1 h with h | h
            · exact .inl h
            · exact .inr (List.mem_cons_of_mem _ h)
          · rcases List.mem_cons.1 h with h | h
            · exact .inr (by rw [h]; exact List.mem_cons_self ..)
            · rcases ih h with h | h
              · exact .inl h
              · exact .inr (List.mem_cons_of_mem _ h)
      rcases this hm with h5 | h5
      · exact e h5.symm
      · exact h1 h5
theorem waits_iff {S : CS} {M : Mo} (h : Rel S M) (t : Int) : M.waits t = true ↔ ∃ q ∈ S.ld, t ∈ q.2.2 := by
  constructor
  · intro hw
    obtain ⟨q, hq, hqt⟩ := List.any_eq_true.1 hw
    have ht : t ∈ M.told q.2 := List.mem_map.2 ⟨q, List.mem_filter.2 ⟨hq, by simp⟩, of_decide_eq_true hqt⟩
    rw [h.ld] at ht
    cases hm : mget q.2 S.ld with
    | none => rw [hm] at ht; cases ht
    | some r => rw [hm] at ht; exact ⟨_, mget_mem hm, ht⟩
  · rintro ⟨q, hq, ht⟩
    have hm : mget q.1 S.ld = some q.2 := mem_mget h.nd (by obtain ⟨a, b⟩ := q; exact hq)
    have := h.ld q.1
    rw [hm] at this
    have ht : t ∈ M.told q.1 := by rw [this]; exact ht
    obtain ⟨p, hp, e⟩ := List.mem_map.1 ht
    exact List.any_eq_true.2 ⟨p, (List.mem_filter.1 hp).1, decide_eq_true e⟩
theorem place_spec {bc : Nat} {S : CS} {M : Mo} {B : Nat} (hR : Rel S M) (hO : M.Ok B) (b : Int) : Con Tryz.prog 194 [.pointer (some ⟨bc, 0, none⟩), .int .i64 b] (fun w => CR w bc S) [] (fun _ : Unit => .int .i64 (io (M.find b))) (fun _ => True) (fun _ => []) := by
  intro w hC hH
  refine enter (n := 19) (vs := [.pointer (some ⟨bc, 0, none⟩), .int .i64 b]) (St w [] []) func194 I I I (St.init hH) ?_
  refine Cs I (Ak I (Cs I (Lm I (Lc I (Lfa U257 I sizeOf89 I (Lq I (q_loadC I isAgg89 I (fun _ h => (CR.keep hC h).c) I) (Lm I (Lq I (q_lookupOk (kf := kI) (vf := kI) b I U89 keyI zeroValue3 I I (fun _ h => (CR.keep hC h).a)) (Lm I (Lq I (q_extract I I I) (Lq I (q_extract I I I) (Las I (Ak I (c_seq (c_seq ?_)))))))))))))))
  refine opt_cases (M.find b) (fun hf => ?_) (fun i hf => ?_)
  · have hm := hR.at' b
    rw [hf, Option.map_none] at hm
    refine Sv' 6 (.bool false) I (by rw [hm]; rfl) (Cr I (Lm I (Lq I (q_not I I) (Nk (c_true I (Cs I (Ak I (c_ret (k_then_ret (r_one I I ?_))))))))))
    exact fun _ h => ⟨(), congrArg (fun z => Ending.returned (Value.int .i64 z)) (by rw [hf]; rfl), trivial, h⟩
  · have hm := hR.at' b
    rw [hf, Option.map_some] at hm
    refine Sv' 6 (.bool true) I (by rw [hm]; rfl) (Sv' 5 (.int .i64 (i : Int)) I (by rw [hm]) (Cr I (Lm I (Lq I (q_not I I) (Nk (c_false I (c_skip (Kt (Cs I (Lm I (Ak I (c_ret (r_one I I ?_)))))))))))))
    exact fun _ h => ⟨(), congrArg (fun z => Ending.returned (Value.int .i64 z)) (by rw [hf]; rfl), trivial, h⟩
theorem hb_of {α : Type} {w0 w : World} {v : Value} {E : Enc α} {l : List α} {b : Nat} {φ : Option Obj → Prop} {H : List Ent} (h : RdV w0 v E l) (s : St w0 [] (⟨some b, φ⟩ :: H) w) : blk v ≠ b ∨ l = [] := by
  by_cases hl : l = []
  · exact .inr hl
  · refine .inl (fun e => ?_)
    have h1 := h.lt hl
    have h2 : b ∈ ([] : List Nat) ∨ w0.heap.size ≤ b := s.dom b (List.mem_cons_self ..)
    rcases h2 with h2 | h2
    · cases h2
    · omega
section
variable {n : Nat} {L : Env} {X : World → Prop} {o : Oper}
def wks : List Sc := [.i .i64, .i .i64, .b]
def i64 (z : Int) : Prop := (Lit.int .i64 z).wf = true
theorem i64_in {z : Int} (h0 : -60000 ≤ z) (h1 : z ≤ 60000) : i64 z := by
  unfold i64
  simp only [Lit.wf, Bool.and_eq_true, decide_eq_true_eq]
  exact ⟨by show (-2 ^ 63 : Int) ≤ _; omega, by show _ ≤ (2 ^ 63 - 1 : Int); omega⟩
theorem Wn.kinds {w : Wn} (ht : i64 w.t) (hb : i64 w.b) : Kinds wks w.c := by
  refine ⟨rfl, fun j k v h1 h2 => ?_⟩
  match j with
  | 0 => cases h1; cases h2; exact ⟨_, rfl, ht⟩
  | 1 => cases h1; cases h2; exact ⟨_, rfl, hb⟩
  | 2 => cases h1; cases h2; exact ⟨_, rfl⟩
  | j + 3 => simp [wks] at h1
theorem Wn.c_inj {a b : Wn} : a.c = b.c ↔ a = b := by
  refine ⟨fun h => ?_, fun h => by rw [h]⟩
  simp only [Wn.c, List.cons.injEq, Value.int.injEq, Value.bool.injEq, true_and, and_true] at h
  exact Wn.ext' h.1 h.2.1 h.2.2
theorem q_eqW {u : TypeId} {x y : Operand} (k j : Wn) (hk : i64 k.t ∧ i64 k.b) (hj : i64 j.t ∧ i64 j.b) (ho : o.op = .binOp .eql 277 x y u) (hx : ev L x = some (.agg k.c.toArray)) (hy : ev L y = some (.agg j.c.toArray)) : QOp Tryz.prog n L X o (.bool (decide (k = j))) :=
  q_eqAgg (d := 3) (ks := wks) _ (by kernel_rfl) (by kernel_rfl) (by decide) (by kernel_rfl) (by kernel_rfl) (by kernel_rfl) ho hx hy (Wn.kinds hk.1 hk.2) (Wn.kinds hj.1 hj.2) (by rw [Wn.c_inj, decide_eq_true_eq])
end
theorem wn_eq {p q : Int × Int} : decide (wn p = wn q) = decide (p = q) := by
  rw [decide_eq_decide]
  refine ⟨fun h => ?_, fun h => by rw [h]⟩
  have h1 := congrArg Wn.t h
  have h2 := congrArg Wn.b h
  exact Prod.ext h1 h2
theorem kv_at {S : CS} {m : Array MapEntry} (h : m.toList.map (fun e => (e.key, e.val)) = S.ld.map (fun p => (kI p.1, vS p.2))) {e : MapEntry} (he : e ∈ m.toList) : ∃ (i : Nat) (q : Int × (Sv × List Int)), m[i]? = some e ∧ S.ld[i]? = some q ∧ e.val = q.2.1.v := by
  obtain ⟨i, hi⟩ := List.mem_iff_getElem?.1 he
  have h1 : (m.toList.map (fun e => (e.key, e.val)))[i]? = some (e.key, e.val) := by rw [List.getElem?_map, hi]; rfl
  rw [h, List.getElem?_map, Option.map_eq_some_iff] at h1
  obtain ⟨q, hq, e2⟩ := h1
  exact ⟨i, q, by simpa using hi, hq, (congrArg Prod.snd e2).symm⟩
theorem at_kv {S : CS} {m : Array MapEntry} (h : m.toList.map (fun e => (e.key, e.val)) = S.ld.map (fun p => (kI p.1, vS p.2))) {q : Int × (Sv × List Int)} (hq : q ∈ S.ld) : ∃ (i : Nat) (e : MapEntry), S.ld[i]? = some q ∧ m[i]? = some e ∧ e ∈ m.toList := by
  obtain ⟨i, hi⟩ := List.mem_iff_getElem?.1 hq
  have hl := congrArg List.length h
  simp only [List.length_map, Array.length_toList] at hl
  have hlt := (List.getElem?_eq_some_iff.1 hi).1
  exact ⟨i, m[i], hi, Array.getElem?_eq_getElem (by omega), by simp⟩
theorem born_inj {m : Array MapEntry} (hn : (m.toList.map (·.born)).Nodup) {i j : Nat} {e f : MapEntry} (he : m[i]? = some e) (hf : m[j]? = some f) (h : e.born = f.born) : i = j := by
  have hi := (Array.getElem?_eq_some_iff.1 he).1
  have hj := (Array.getElem?_eq_some_iff.1 hf).1
  refine (List.getElem_inj (h₀ := by simpa using hi) (h₁ := by simpa using hj) hn).1 ?_
  have e1 := (Array.getElem?_eq_some_iff.1 he).2
  have e2 := (Array.getElem?_eq_some_iff.1 hf).2
  simp [e1, e2, h]
theorem isSome_mem {l : List Int} {t : Int} : (fst1 (fun z => decide (z = t)) l).isSome = true ↔ t ∈ l := by
  constructor
  · intro h
    obtain ⟨k, hk⟩ := Option.isSome_iff_exists.1 h
    obtain ⟨y, hy, hp, _⟩ := fst1_at hk
    have := of_decide_eq_true hp
    subst this; exact List.mem_of_getElem? hy
  · intro h
    cases hf : fst1 (fun z => decide (z = t)) l with
    | some _ => rfl
    | none => have := fst1_no hf t h; simp at this
theorem frame_spec {bc : Nat} {S : CS} {M : Mo} {B : Nat} (hR : Rel S M) (hO : M.Ok B) (b st : Int) : Con Tryz.prog 165 [.pointer (some ⟨bc, 0, none⟩), .int .i64 b, .int .i64 st] (fun w => CR w bc S) [] (fun _ : Unit => fpo S.vF (M.frI b st)) (fun _ => True) (fun _ => []) := by
  intro w hC hH
  refine enter (n := 31) (vs := [.pointer (some ⟨bc, 0, none⟩), .int .i64 b, .int .i64 st]) (St w [] []) func165 I I I (St.init hH) ?_
  refine Cs I (Ak I (Cs I (Lm I (Lm I (l_e I (e_call_00 (place_spec hR hO b) I I I call194 I (fun _ h => CR.keep hC h) ?_))))))
  intro _ _
  refine Ak I (c_seq (c_seq ?_))
  refine opt_cases (M.find b) (fun hf => ?_) (fun i hf => ?_)
  · refine Sv' 7 (.int .i64 (-1)) I (by rw [hf]; rfl) (Cr I (Lm I (Lq I (q_lss I I I) (Lm I (Sb 13 true I (I) (Lx I (Lx I (Lx I (Lx I (Lx I (Lx I (Lx I (Lx I (Lx I (Lx I (Lq I (q_pick_t I I I) (Nk (c_true I (Cs I (Ak I (c_ret (k_then_ret (r_one I I ?_)))))))))))))))))))))))
    exact fun _ h => ⟨(), congrArg (fun z => Ending.returned z) (by unfold Mo.frI; rw [hf]; rfl), trivial, h.nothing⟩
  · obtain ⟨y, hy, hyb, hys, hya⟩ := find_at hf
    obtain ⟨f, hfi, hfy⟩ := hR.get hy
    have hlt := (List.getElem?_eq_some_iff.1 hfi).1
    have hst : (M.at' i).st = f.st := by rw [hya, ← hfy]; rfl
    refine Sv' 7 (.int .i64 (i : Int)) I (by rw [hf]; rfl) (Cr I (Lm I (Lq I (q_lss I I I) (Lm I (Sb 13 false I (decide_eq_false (by omega)) (Lm I (Lc I (Lfa U257 I Z253 I (Lq I (q_loadC I G253 I (fun _ h => (CR.keep hC h).c) I) (Lm I (Lq I (q_indexV i I U253 Z259 I (fun _ h => hC.f.keep h (by simp [dom])) I I (by omega)) (Lfa U259 I Z3 I (Lq I (q_loadV i 0 I G3 I I (fun _ h => hC.f.keep h (by simp [dom])) hfi I) (Lm I (Lq I (q_neq I I I) (Lq I (q_pick_f I I I) (Nk ?_)))))))))))))))))
    refine Pre.caseB 24 I (fun hs => ?_) (fun hs => ?_)
    · try simp only [B4] at hs
      refine c_true I (Cs I (Ak I (c_ret (k_then_ret (r_one I I ?_)))))
      exact fun _ h => ⟨(), congrArg (fun z => Ending.returned z) (by unfold Mo.frI; rw [hf]; simp only; rw [if_neg (by rw [hst]; exact hs)]; rfl), trivial, h.nothing⟩
    · try simp only [B4] at hs
      refine c_false I (c_skip (Kt (Cs I (Lm I (Lc I (Lfa U257 I Z253 I (Lq I (q_loadC I G253 I (fun _ h => (CR.keep hC h).c) I) (Lm I (Lq I (q_indexV i I U253 Z259 I (fun _ h => hC.f.keep h (by simp [dom])) I I (by omega)) (Ak I (c_ret (r_one I I ?_))))))))))))
      exact fun _ h => ⟨(), congrArg (fun z => Ending.returned z) (by unfold Mo.frI; rw [hf]; simp only; rw [if_pos (by rw [hst]; exact hs)]; rfl), trivial, h.nothing⟩
theorem stands_spec {bc : Nat} {S : CS} {M : Mo} {B : Nat} (hR : Rel S M) (hO : M.Ok B) (t : Int) : Con Tryz.prog 192 [.pointer (some ⟨bc, 0, none⟩), .int .i64 t] (fun w => CR w bc S) [] (fun _ : Unit => .int .i64 (io (M.stand t))) (fun _ => True) (fun _ => []) := by
  intro w hC hH
  refine enter (n := 11) (vs := [.pointer (some ⟨bc, 0, none⟩), .int .i64 t]) (St w [] []) func192 I I I (St.init hH) ?_
  refine Cs I (l_e I (e_box I I I I ?_))
  intro bt
  refine cells_eq (show _ = [.int .i64 t] from I) (Ak I (Cs I (Lm I (Lc I (Lfa U257 I Z255 I (Lq I (q_loadC I G255 I (fun _ h => (CR.keep hC h).c) I) (Lq I (q_makeFunc (fn := .func 0) (us := #[.pointer (some ⟨bt, 0, none⟩)]) 256 I (vs := #[]) (fun a k => by simp) (fun a k => by simp [k.eval (x := .tmp 3) rfl])) (Pre.fact (fun _ h => hb_of hC.l h) ?_))))))))
  intro hb
  refine l_e I (e_call_11 (indexf_spec S.ln bt hb t (by have := hR.lnl; have := hO.lB; have := hO.B9; omega)) I I I call255 I (fun _ h => (CR.keep hC h).l) ?_)
  intro _ _
  refine Ak I (c_ret (r_one I I ?_))
  exact fun _ h => ⟨(), congrArg (fun z => Ending.returned (Value.int .i64 z)) (by rw [stand_eq hR]), trivial, h.nothing⟩
theorem waits_spec {bc : Nat} {S : CS} {M : Mo} {B : Nat} (hR : Rel S M) (hO : M.Ok B) (t : Int) : Con Tryz.prog 191 [.pointer (some ⟨bc, 0, none⟩), .int .i64 t] (fun w => CR w bc S) [] (fun _ : Unit => .bool (M.waits t)) (fun _ => True) (fun _ => []) := by
  intro w hC hH
  refine enter (n := 19) (vs := [.pointer (some ⟨bc, 0, none⟩), .int .i64 t]) (St w [] []) func191 I I I (St.init hH) ?_
  refine Cs I (Ak I (c_seq (Cs I (Lm I (Lc I (Lfa U257 I Z254 I (Lq I (q_loadC I isAgg254 I (fun _ h => (CR.keep hC h).c) I) ?_)))))))
  obtain ⟨m, c, hm, hkv, hT⟩ := mapT_obj hC.m
  have hX : mapX S.bL m c w := hm
  refine l_e I (e_range I I I U254 I (fun _ h => mapX_keep hX h (by simp)) ?_)
  intro r
  refine Nk (c_block ?_)
  refine c_loop1 (fun (seen : Array Nat) => [(1, .int .i64 t), (11, .pointer (some ⟨r, 0, none⟩))]) (fun (seen : Array Nat) => St w [] [itE r S.bL c seen]) (fun (seen : Array Nat) => ∀ (i : Nat) (e : MapEntry) (q : Int × (Sv × List Int)), m[i]? = some e → S.ld[i]? = some q → seen.contains e.born = true → t ∉ q.2.2) (fun (seen : Array Nat) => leftN m seen) (#[]) (fun i e q h1 h2 h3 => by simp at h3) (Sn I (Sn I (Sub.nil))) Ih ?_
  intro seen hp
  refine Cs I (l_e I ?_)
  refine e_next I I I I hT.1 (fun _ h => mapX_keep hX h (by simp)) (fun h0 => ?_) (fun e he => ?_)
  · refine Lq I (q_extract I I I) (Ns (c_false I (c_exit (k_then_exit (k_then_exit (k_block_exit (Kt (Cs I (Ak I (c_ret (drop0 ?_)))))))))))
    have hno := left_none h0
    refine r_one I I ?_
    exact fun _ h => ⟨(), congrArg (fun z => Ending.returned (Value.bool z)) ((by
          rw [Bool.eq_false_iff] 
          intro hw
          obtain ⟨q, hq, ht⟩ := (waits_iff hR t).1 hw
          obtain ⟨i, e, h1, h2, h3⟩ := at_kv hkv hq
          exact hp i e q h2 h1 (hno e h3) ht : M.waits t = false).symm), trivial, h.nothing⟩
  · obtain ⟨hem, hes⟩ := left_mem he
    obtain ⟨i, q, hmi, hqi, hval⟩ := kv_at hkv hem
    have hq := List.mem_of_getElem? hqi
    refine Lq I (q_extract I I I) (Ns (c_true I (c_skip (Kt (c_block (Cs I (Lq I (q_entry I I hT.2 hem (fun _ h => mapX_keep hX h (by simp)) (Hat 0 I)) (Lq I (q_extract I I I) (Ak I (c_seq (Sv' 6 (q.2.1.v) I (hval) (Cr I (Lm I (Lm I ?_))))))))))))))
    have hqm : mget q.1 S.ld = some q.2 := mem_mget hR.nd hq
    have hql : q.2.2.length ≤ 65536 := by
      have h1 := hR.ld q.1
      rw [hqm] at h1
      have h2 : q.2.2 = M.told q.1 := h1.symm
      rw [h2]; unfold Mo.told
      rw [List.length_map]
      exact Nat.le_trans (List.length_filter_le _ _) (by have := hO.ll; have := hO.B9; omega)
    refine l_e I (e_call_00 (contains_spec q.2.2 t hql) I I I call105 I (fun _ h => (hC.r q hq).keep h (by simp)) ?_)
    intro _ _
    refine Nk ?_
    refine Pre.caseB 18 I (fun hc => ?_) (fun hc => ?_)
    · refine c_true I (Cs I (Ak I (c_ret (k_block_ret (k_then_ret (k_block_ret (k_then_ret (r_one I I ?_))))))))
      exact fun _ h => ⟨(), congrArg (fun z => Ending.returned (Value.bool z)) (((waits_iff hR t).2 ⟨q, hq, isSome_mem.1 hc⟩).symm), trivial, h.nothing⟩
    · refine c_false I (c_skip (k_block ?_))
      exact k_round (seen.push e.born) (left_less he) (fun i' e' q' h1 h2 h3 ht => by
          rw [Array.contains_push, Bool.or_eq_true] at h3
          rcases h3.symm with h3 | h3
          · have hb : e'.born = e.born := by first | exact (beq_iff_eq.1 h3).symm | exact beq_iff_eq.1 h3
            have := born_inj hT.2 h1 hmi hb
            subst this
            rw [hqi] at h2; cases h2
            have := isSome_mem.2 ht
            rw [hc] at this; cases this
          · exact hp i' e' q' h1 h2 h3 ht) (Sub.cons I (Sub.cons I (Sub.nil))) (fun _ h => h)
end Go.Proofs.YtloldofjddbjoaaGreat
namespace Go.Proofs.YtloldofjddbjoaaGreat
open Go.Sep Go.RowKit Tryz
theorem list_cases {α : Type} {Q : Prop} (l : List α) (h1 : l = [] → Q) (h2 : ∀ q r, l = q :: r → Q) : Q := by cases l with
  | nil => exact h1 rfl
  | cons q r => exact h2 q r rfl
theorem countP_snoc {α : Type} {p : α → Bool} {l : List α} {i : Nat} {x : α} (h : l[i]? = some x) : (l.take (i + 1)).countP p = (l.take i).countP p + (if p x = true then 1 else 0) := by
  rw [List.take_add_one, h, List.countP_append]; simp [List.countP_cons]
def cls (M : Mo) (t : Int) (i : Nat) : List Nat := (List.range i).filter (fun j => isC t (M.at' j))
theorem cls_succ (M : Mo) (t : Int) (i : Nat) : cls M t (i + 1) = if isC t (M.at' i) = true then cls M t i ++ [i] else cls M t i := by
  unfold cls; rw [List.range_succ, List.filter_append]
  cases h : isC t (M.at' i) <;> simp [h]
theorem cls_len (M : Mo) (t : Int) (i : Nat) : (cls M t i).length ≤ i := by
  have := List.length_filter_le (fun j => isC t (M.at' j)) (List.range i)
  rw [List.length_range] at this; exact this
theorem cls_count (M : Mo) (t : Int) : ∀ i, i ≤ M.fr.length → (cls M t i).length = (M.fr.take i).countP (isC t)
  | 0, _ => rfl
  | i + 1, h => by
    obtain ⟨y, hy⟩ : ∃ y, M.fr[i]? = some y := ⟨_, List.getElem?_eq_getElem (by omega)⟩
    rw [cls_succ, countP_snoc hy, at_eq hy, ← cls_count M t i (by omega)]
    split <;> simp
theorem cls_all (M : Mo) (t : Int) : (cls M t M.fr.length).length = M.claims t := by
  rw [cls_count M t _ (Nat.le_refl _), List.take_length]; rfl
def encFp (v : Value) : Enc Nat := ⟨1, fun i => [fp v i], fun _ => rfl, fun a u h => by simp at h; subst h; rfl, by decide⟩
theorem isC_vw (t : Int) (f : FC) : isC t (vw f) = (decide (f.st = 3) && decide (f.own = t)) := by
  unfold isC vw
  by_cases h : f.st = 3 <;> simp [h]
theorem may_none {M : Mo} {t : Int} (h1 : tkB t = true) (h2 : M.waits t = false) (h : M.stand t = none) : M.may t = true := by unfold Mo.may; rw [h1, h2, h]; rfl
theorem may_some {M : Mo} {t : Int} {k : Nat} {q : Int × Int} (h1 : tkB t = true) (h2 : M.waits t = false) (h : M.stand t = some k) (hq : M.line[k]? = some q) : M.may t = ((decide (k = 0) && decide (0 < M.free)) || (M.find q.2).isSome) := by
  have hg : M.line.getD k (0, -1) = q := by rw [List.getD_eq_getElem?_getD, hq]; rfl
  unfold Mo.may
  rw [h1, h2, h]
  show (true && !false && (decide (k = 0) && decide (0 < M.free) || (M.find (M.line.getD k (0, -1)).2).isSome)) = _
  rw [hg]
  simp
theorem may_spec {bc : Nat} {S : CS} {M : Mo} {B : Nat} (hR : Rel S M) (hO : M.Ok B) (t b : Int) (hb64 : i64 b) : Con Tryz.prog 242 [.pointer (some ⟨bc, 0, none⟩), .agg (wn (t, b)).c.toArray] (fun w => CR w bc S) [] (fun _ : Unit => .bool (M.mayW t b)) (fun _ => True) (fun _ => []) := by
  intro w hC hH
  refine enter (n := 35) (vs := [.pointer (some ⟨bc, 0, none⟩), .agg (wn (t, b)).c.toArray]) (St w [] []) func242 I I I (St.init hH) ?_
  refine Cs I (l_e I (e_box I I I I ?_))
  intro bw
  refine cells_eq (show _ = (wn (t, b)).c from I) (Ak I (Cs I (Lm I (Lfa U277 I Z3 I (Lo G3 0 I (l_e I (e_call_00 (stands_spec hR hO t) I I I call192 I (fun _ h => CR.keep hC h) ?_)))))))
  intro _ _
  refine Ak I (c_seq ?_)
  refine opt_cases (M.stand t) (fun hs => ?_) (fun i hs => ?_)
  · refine Sv' 5 (.int .i64 (-1)) I (by rw [hs]; rfl) (D4 [(0,O),(1,O),(2,V),(3,O),(4,O),(5,O),(6,O),(7,V),(8,O),(9,O),(10,O),(11,O),(12,O),(13,O),(14,O),(15,O),(16,O),(17,O),(18,O),(19,O),(20,O),(21,O),(22,O),(23,O),(24,O),(25,O)] [] [(_,O),(_,O),(_,V),(_,O),(_,O),(_,O),(_,O),(_,V),(_,O),(_,O),(_,O),(_,O),(_,O),(_,O),(_,O),(_,O),(_,O),(_,O),(_,O),(_,O),(_,O),(_,O),(_,O),(_,O),(_,O),(_,O)] (fun w2 => CR w2 bc S ∧ (cellsE bw 277 (wn (t, b)).c).at w2) I I I I St.drawn (fun _ h => ⟨CR.keep hC h, h.at 0 rfl⟩) (Dfa U277 I Z3 I (Dq I (q_loadC I G3 I (fun _ h => h.2) I) (d_e I (e_call_00 (task_spec t) I I I call190 I Tt ?_)))))
    intro _ _
    refine d_held (fun _ h => ⟨CR.keep hC h, h.at 0 rfl⟩) (Dm I ?_)
    refine Pre.caseB 13 I (fun h1 => ?_) (fun h1 => ?_)
    · have ht8 : 0 ≤ t ∧ t < 8 := by unfold tkB at h1; simpa using h1
      have ht64 : i64 t := i64_in (by omega) (by omega)
      refine Dm I (Dfa U277 I Z3 I (Dq I (q_loadC I G3 I (fun _ h => h.2) I) (d_e I (e_call_00 (waits_spec hR hO t) I I I call191 I (fun _ h => CR.keep hC h) ?_))))
      intro _ _
      refine d_held (fun _ h => ⟨CR.keep hC h, h.at 0 rfl⟩) (Dq I (q_not I I) (Dq I (q_pick_t I I I) (Dm I ?_)))
      refine Pre.caseB 20 I (fun h2 => ?_) (fun h2 => ?_)
      · try simp only [B4] at h2
        refine Dm I (Dq I (q_lss I I I) (Dm I (Sb 23 true I (I) (Dx I (Dx I (Dx I (Dx I (Dx I (Dx I (Dx I (Dx I (Dx I (Dq I (q_pick_t I I I) (Dq I (q_pick_t I I I) (Das I (d_nil (Kt (c_ret (r_one I I ?_)))))))))))))))))))
        exact fun _ h => ⟨(), congrArg (fun z => Ending.returned (Value.bool z)) (by unfold Mo.mayW; rw [h1, h2, hs]; rfl), trivial, h.nothing⟩
      · try simp only [B4] at h2
        refine Dx I (Dx I (Dx I (Dx I (Dx I (Dx I (Dx I (Dx I (Dx I (Dx I (Dx I (Dx I (Dx I (Dq I (q_pick_f I I I) (Das I (d_nil (Kt (c_ret (r_one I I ?_))))))))))))))))))
        exact fun _ h => ⟨(), congrArg (fun z => Ending.returned (Value.bool z)) (by unfold Mo.mayW; rw [h1, h2]; rfl), trivial, h.nothing⟩
    · refine Dx I (Dx I (Dx I (Dx I (Dx I (Dq I (q_pick_f I I I) (Dm I (Dx I (Dx I (Dx I (Dx I (Dx I (Dx I (Dx I (Dx I (Dx I (Dx I (Dx I (Dx I (Dx I (Dq I (q_pick_f I I I) (Das I (d_nil (Kt ?_)))))))))))))))))))))))
      refine c_ret (r_one I I ?_)
      exact fun _ h => ⟨(), congrArg (fun z => Ending.returned (Value.bool z)) (by unfold Mo.mayW; rw [h1]; rfl), trivial, h.nothing⟩
  · obtain ⟨q, hq, hqt⟩ := stand_at hs
    have hli : S.ln[i]? = some (wn q) := by rw [hR.ln, List.getElem?_map, hq]; rfl
    have hlt := (List.getElem?_eq_some_iff.1 hli).1
    refine Sv' 5 (.int .i64 (i : Int)) I (by rw [hs]; rfl) (D4 [(0,O),(1,O),(2,V),(3,O),(4,O),(5,O),(6,O),(7,V),(8,O),(9,O),(10,O),(11,O),(12,O),(13,O),(14,O),(15,O),(16,O),(17,O),(18,O),(19,O),(20,O),(21,O),(22,O),(23,O),(24,O),(25,O)] [] [(_,O),(_,O),(_,V),(_,O),(_,O),(_,O),(_,O),(_,V),(_,O),(_,O),(_,O),(_,O),(_,O),(_,O),(_,O),(_,O),(_,O),(_,O),(_,O),(_,O),(_,O),(_,O),(_,O),(_,O),(_,O),(_,O)] (fun w2 => CR w2 bc S ∧ (cellsE bw 277 (wn (t, b)).c).at w2) I I I I St.drawn (fun _ h => ⟨CR.keep hC h, h.at 0 rfl⟩) (Dfa U277 I Z3 I (Dq I (q_loadC I G3 I (fun _ h => h.2) I) (d_e I (e_call_00 (task_spec t) I I I call190 I Tt ?_)))))
    intro _ _
    refine d_held (fun _ h => ⟨CR.keep hC h, h.at 0 rfl⟩) (Dm I ?_)
    refine Pre.caseB 13 I (fun h1 => ?_) (fun h1 => ?_)
    · have ht8 : 0 ≤ t ∧ t < 8 := by unfold tkB at h1; simpa using h1
      have ht64 : i64 t := i64_in (by omega) (by omega)
      refine Dm I (Dfa U277 I Z3 I (Dq I (q_loadC I G3 I (fun _ h => h.2) I) (d_e I (e_call_00 (waits_spec hR hO t) I I I call191 I (fun _ h => CR.keep hC h) ?_))))
      intro _ _
      refine d_held (fun _ h => ⟨CR.keep hC h, h.at 0 rfl⟩) (Dq I (q_not I I) (Dq I (q_pick_t I I I) (Dm I ?_)))
      refine Pre.caseB 20 I (fun h2 => ?_) (fun h2 => ?_)
      · try simp only [B4] at h2
        refine Dm I (Dq I (q_lss I I I) (Dm I (Sb 23 false I (decide_eq_false (by omega)) (Dm I (Dc I (Dfa U257 I Z255 I (Dq I (q_loadC I G255 I (fun _ h => (h.1).c) I) (Dm I (Dq I (q_indexV i I U255 Z277 I (fun _ h => (h.1).l) I I (by omega)) (Dq I (q_loadVAgg i I G277 Z277 I I (fun _ h => (h.1).l) hli) (Dq I (q_loadCAgg ((wn (t, b)).c) I G277 Z277 I (fun _ h => h.2) (I) (I)) (Dq I (q_eqW (wn q) (wn (t, b)) ⟨by rw [wn_t, hqt]; exact ht64, i64_in (by have := hO.lb q (List.mem_of_getElem? hq); show -60000 ≤ q.2; omega) (by have := hO.lb q (List.mem_of_getElem? hq); show q.2 ≤ 60000; omega)⟩ ⟨ht64, hb64⟩ I I I) (Dq I (q_pick_f I I I) (Dq I (q_pick_t I I I) (Das I (d_nil (Kt (c_ret (r_one I I ?_)))))))))))))))))))
        exact fun _ h => ⟨(), congrArg (fun z => Ending.returned (Value.bool z)) (by rw [wn_eq]; unfold Mo.mayW; rw [h1, h2, hs]; show _ = (true && !false && decide (M.line[i]? = some (t, b))); rw [hq]; simp), trivial, h.nothing⟩
      · try simp only [B4] at h2
        refine Dx I (Dx I (Dx I (Dx I (Dx I (Dx I (Dx I (Dx I (Dx I (Dx I (Dx I (Dx I (Dx I (Dq I (q_pick_f I I I) (Das I (d_nil (Kt (c_ret (r_one I I ?_))))))))))))))))))
        exact fun _ h => ⟨(), congrArg (fun z => Ending.returned (Value.bool z)) (by unfold Mo.mayW; rw [h1, h2]; rfl), trivial, h.nothing⟩
    · refine Dx I (Dx I (Dx I (Dx I (Dx I (Dq I (q_pick_f I I I) (Dm I (Dx I (Dx I (Dx I (Dx I (Dx I (Dx I (Dx I (Dx I (Dx I (Dx I (Dx I (Dx I (Dx I (Dq I (q_pick_f I I I) (Das I (d_nil (Kt ?_)))))))))))))))))))))))
      refine c_ret (r_one I I ?_)
      exact fun _ h => ⟨(), congrArg (fun z => Ending.returned (Value.bool z)) (by unfold Mo.mayW; rw [h1]; rfl), trivial, h.nothing⟩
theorem free_spec {bc : Nat} {S : CS} {M : Mo} {B : Nat} (hR : Rel S M) (hO : M.Ok B) (t : Int) : Con Tryz.prog 244 [.pointer (some ⟨bc, 0, none⟩), .int .i64 t] (fun w => CR w bc S) [] (fun _ : Unit => fpo S.vF (M.takes t)) (fun _ => True) (fun _ => []) := by
  intro w hC hH
  refine enter (n := 47) (vs := [.pointer (some ⟨bc, 0, none⟩), .int .i64 t]) (St w [] []) func244 I I I (St.init hH) ?_
  refine Cs I (Ak I (c_seq (Cs I (Lm I (Lc I (Lfa U257 I Z255 I (Lq I (q_loadC I G255 I (fun _ h => (CR.keep hC h).c) I) (Lq I (q_lenV I U255 I (fun _ h => hC.l.keep h (by simp [dom]))) (Lq I (q_gtr I I I) (Lm I ?_))))))))))
  refine list_cases M.line (fun hl => ?_) (fun q r hl => ?_)
  · have h0 : S.ln.length = 0 := by rw [hR.lnl, hl]; rfl
    have ht : M.turn t = true := by unfold Mo.turn; rw [hl]
    refine Sb 12 false I (decide_eq_false (by omega)) (Lx I (Lx I (Lx I (Lx I (Lx I (Lx I (Lx I (Lx I (Lx I (Lq I (q_pick_f I I I) (Nk (c_false I (c_skip (Ks (Cs I (Lm I (Lc I (Lfa U257 I Z253 I (Lq I (q_loadC I G253 I (fun _ h => (CR.keep hC h).c) I) (Lq I (q_lenV I U253 I (fun _ h => hC.f.keep h (by simp [dom]))) (Lm I (Nk (c_block ?_)))))))))))))))))))))))
    refine c_loop1 (fun (i : Nat) => [(0, .pointer (some ⟨bc, 0, none⟩)), (1, .int .i64 t), (27, .int .i64 (S.fl.length : Int)), (28, .int .i64 (i : Int))]) (fun (i : Nat) => St w [] []) (fun (i : Nat) => i ≤ S.fl.length ∧ ∀ z ∈ M.fr.take i, isF z = false) (fun (i : Nat) => S.fl.length - i) (0) ⟨Nat.zero_le _, by simp⟩ (Sn I (Sn I (Sn I (Sn I (Sub.nil))))) Ih ?_
    intro i hp
    refine c_seq ?_
    obtain ⟨hi, hno⟩ := hp
    have hfl := hR.len
    have h64 := hO.n64
    refine Cr I (Lq I (q_lss I I I) (Ns ?_))
    refine Pre.caseB 29 I (fun h1 => ?_) (fun h1 => ?_)
    · try simp only [B4] at h1
      obtain ⟨f, hfi⟩ : ∃ f, S.fl[i]? = some f := ⟨_, List.getElem?_eq_getElem (by omega)⟩
      have hv := hR.vw_at hfi
      refine c_true I (c_skip (Ks (c_block (Cs I (Lm I (Ak I (Cs I (Lm I (Lc I (Lfa U257 I Z253 I (Lq I (q_loadC I G253 I (fun _ h => (CR.keep hC h).c) I) (Lm I (Lq I (q_indexV i I U253 Z259 I (fun _ h => hC.f.keep h (by simp [dom])) I I (by omega)) (Lfa U259 I Z3 I (Lq I (q_loadV i 0 I G3 I I (fun _ h => hC.f.keep h (by simp [dom])) hfi I) (Lq I (q_eql I I I) (Nk ?_)))))))))))))))))
      refine Pre.caseB 39 I (fun h2 => ?_) (fun h2 => ?_)
      · try simp only [B4] at h2
        refine c_true I (Cs I (Lm I (Lc I (Lfa U257 I Z253 I (Lq I (q_loadC I G253 I (fun _ h => (CR.keep hC h).c) I) (Lm I (Lq I (q_indexV i I U253 Z259 I (fun _ h => hC.f.keep h (by simp [dom])) I I (by omega)) (Ak I (c_ret (k_block_ret (k_then_ret (k_then_ret (k_block_ret (k_then_ret (r_one I I ?_)))))))))))))))
        exact fun _ h => ⟨(), congrArg (fun z => Ending.returned z) (by unfold Mo.takes; rw [if_pos ht]; unfold Mo.freeI; rw [fst1_some hv (decide_eq_true h2) hno]; rfl), trivial, h.nothing⟩
      · try simp only [B4] at h2
        refine c_false I (c_skip (k_block (Kt (Cr I (Lq I (q_inc I I I (by omega)) (Lm I (l_nil ?_)))))))
        exact k_round (i + 1) (by omega) ⟨by omega, take_none hno hv (decide_eq_false h2)⟩ (Sub.cons I (Sub.cons I (Sub.cons I (Sub.cons I (Sub.nil))))) (fun _ h => h)
    · try simp only [B4] at h1
      refine c_false I (c_exit (k_then_exit (k_then_exit (k_block_exit (Kt (Cs I (Ak I (c_ret (r_one I I ?_)))))))))
      exact fun _ h => ⟨(), congrArg (fun z => Ending.returned z) (by unfold Mo.takes; rw [if_pos ht]; unfold Mo.freeI; rw [List.take_of_length_le (by omega)] at hno; rw [fst1_none hno]; rfl), trivial, h.nothing⟩
  · have hl0 : S.ln[0]? = some (wn q) := by rw [hR.ln, hl]; rfl
    have hlt := (List.getElem?_eq_some_iff.1 hl0).1
    refine Sb 12 true I (decide_eq_true (by omega)) (Lm I (Lc I (Lfa U257 I Z255 I (Lq I (q_loadC I G255 I (fun _ h => (CR.keep hC h).c) I) (Lq I (q_indexV 0 I U255 Z277 I (fun _ h => hC.l.keep h (by simp [dom])) I I (by omega)) (Lfa U277 I Z3 I (Lq I (q_loadV 0 0 I G3 I I (fun _ h => hC.l.keep h (by simp [dom])) hl0 I) (Lm I (Lq I (q_neq I I I) (Lq I (q_pick_t I I I) (Nk ?_)))))))))))
    refine Pre.caseB 22 I (fun hqt => ?_) (fun hqt => ?_)
    · try simp only [B4] at hqt
      refine c_true I (Cs I (Ak I (c_ret (k_then_ret (r_one I I ?_)))))
      exact fun _ h => ⟨(), congrArg (fun z => Ending.returned z) (by unfold Mo.takes Mo.turn; rw [hl]; simp only; rw [if_neg (show ¬ decide (q.1 = t) = true from fun e => hqt (of_decide_eq_true e))]; rfl), trivial, h.nothing⟩
    · try simp only [B4] at hqt
      have ht : M.turn t = true := by unfold Mo.turn; rw [hl]; exact decide_eq_true hqt
      refine c_false I (c_skip (Ks (Cs I (Lm I (Lc I (Lfa U257 I Z253 I (Lq I (q_loadC I G253 I (fun _ h => (CR.keep hC h).c) I) (Lq I (q_lenV I U253 I (fun _ h => hC.f.keep h (by simp [dom]))) (Lm I (Nk (c_block ?_)))))))))))
      refine c_loop1 (fun (i : Nat) => [(0, .pointer (some ⟨bc, 0, none⟩)), (1, .int .i64 t), (27, .int .i64 (S.fl.length : Int)), (28, .int .i64 (i : Int))]) (fun (i : Nat) => St w [] []) (fun (i : Nat) => i ≤ S.fl.length ∧ ∀ z ∈ M.fr.take i, isF z = false) (fun (i : Nat) => S.fl.length - i) (0) ⟨Nat.zero_le _, by simp⟩ (Sn I (Sn I (Sn I (Sn I (Sub.nil))))) Ih ?_
      intro i hp
      refine c_seq ?_
      obtain ⟨hi, hno⟩ := hp
      have hfl := hR.len
      have h64 := hO.n64
      refine Cr I (Lq I (q_lss I I I) (Ns ?_))
      refine Pre.caseB 29 I (fun h1 => ?_) (fun h1 => ?_)
      · try simp only [B4] at h1
        obtain ⟨f, hfi⟩ : ∃ f, S.fl[i]? = some f := ⟨_, List.getElem?_eq_getElem (by omega)⟩
        have hv := hR.vw_at hfi
        refine c_true I (c_skip (Ks (c_block (Cs I (Lm I (Ak I (Cs I (Lm I (Lc I (Lfa U257 I Z253 I (Lq I (q_loadC I G253 I (fun _ h => (CR.keep hC h).c) I) (Lm I (Lq I (q_indexV i I U253 Z259 I (fun _ h => hC.f.keep h (by simp [dom])) I I (by omega)) (Lfa U259 I Z3 I (Lq I (q_loadV i 0 I G3 I I (fun _ h => hC.f.keep h (by simp [dom])) hfi I) (Lq I (q_eql I I I) (Nk ?_)))))))))))))))))
        refine Pre.caseB 39 I (fun h2 => ?_) (fun h2 => ?_)
        · try simp only [B4] at h2
          refine c_true I (Cs I (Lm I (Lc I (Lfa U257 I Z253 I (Lq I (q_loadC I G253 I (fun _ h => (CR.keep hC h).c) I) (Lm I (Lq I (q_indexV i I U253 Z259 I (fun _ h => hC.f.keep h (by simp [dom])) I I (by omega)) (Ak I (c_ret (k_block_ret (k_then_ret (k_then_ret (k_block_ret (k_then_ret (r_one I I ?_)))))))))))))))
          exact fun _ h => ⟨(), congrArg (fun z => Ending.returned z) (by unfold Mo.takes; rw [if_pos ht]; unfold Mo.freeI; rw [fst1_some hv (decide_eq_true h2) hno]; rfl), trivial, h.nothing⟩
        · try simp only [B4] at h2
          refine c_false I (c_skip (k_block (Kt (Cr I (Lq I (q_inc I I I (by omega)) (Lm I (l_nil ?_)))))))
          exact k_round (i + 1) (by omega) ⟨by omega, take_none hno hv (decide_eq_false h2)⟩ (Sub.cons I (Sub.cons I (Sub.cons I (Sub.cons I (Sub.nil))))) (fun _ h => h)
      · try simp only [B4] at h1
        refine c_false I (c_exit (k_then_exit (k_then_exit (k_block_exit (Kt (Cs I (Ak I (c_ret (r_one I I ?_)))))))))
        exact fun _ h => ⟨(), congrArg (fun z => Ending.returned z) (by unfold Mo.takes; rw [if_pos ht]; unfold Mo.freeI; rw [List.take_of_length_le (by omega)] at hno; rw [fst1_none hno]; rfl), trivial, h.nothing⟩
theorem freen_spec {bc : Nat} {S : CS} {M : Mo} {B : Nat} (hR : Rel S M) (hO : M.Ok B) : Con Tryz.prog 193 [.pointer (some ⟨bc, 0, none⟩)] (fun w => CR w bc S) [] (fun _ : Unit => .int .i64 (M.free : Int)) (fun _ => True) (fun _ => []) := by
  intro w hC hH
  refine enter (n := 22) (vs := [.pointer (some ⟨bc, 0, none⟩)]) (St w [] []) func193 I I I (St.init hH) ?_
  refine c_seq ?_
  have hfl := hR.len
  have h64 := hO.n64
  refine Cr I (Ak I (Cs I (Ak I (c_seq (Cs I (Lm I (Lc I (Lfa U257 I Z253 I (Lq I (q_loadC I G253 I (fun _ h => (CR.keep hC h).c) I) (Lq I (q_lenV I U253 I (fun _ h => hC.f.keep h (by simp [dom]))) (Lm I (Nk (c_block ?_)))))))))))))
  refine c_loop1 (fun (i : Nat) => [(3, .int .i64 (((M.fr.take i).countP isF) : Int)), (9, S.vF), (10, .int .i64 (S.fl.length : Int)), (11, .int .i64 (i : Int))]) (fun (i : Nat) => St w [] []) (fun (i : Nat) => i ≤ S.fl.length) (fun (i : Nat) => S.fl.length - i) (0) (Nat.zero_le _) (Sn I (Sn I (Sn I (Sn I (Sub.nil))))) Ih ?_
  intro i hi
  refine c_seq ?_
  have hcl : ((M.fr.take i).countP isF) ≤ (M.fr.take i).length := List.countP_le_length
  have htl := List.length_take_le i M.fr
  refine Cr I (Lq I (q_lss I I I) (Ns ?_))
  refine Pre.caseB 12 I (fun h1 => ?_) (fun h1 => ?_)
  · try simp only [B4] at h1
    obtain ⟨f, hfi⟩ : ∃ f, S.fl[i]? = some f := ⟨_, List.getElem?_eq_getElem (by omega)⟩
    have hv := hR.vw_at hfi
    have hcs := countP_snoc (p := isF) hv
    refine c_true I (c_skip (Ks (c_block (Cs I (Lq I (q_indexV i I U253 Z259 I (fun _ h => hC.f.keep h (by simp [dom])) I I (by omega)) (Lq I (q_loadVAgg i I isAgg259 Z259 I I (fun _ h => hC.f.keep h (by simp [dom])) hfi) (l_e I (e_alloc I I I zeroValue259 ?_))))))))
    intro bf
    refine l_e I (e_storeAgg I I Z259 I I I (FC.one _) (by show 0 + 11 ≤ 11; decide) (cells_eq (show Sep.splice _ 0 (f).c = (f).c from Sep.splice_all I) (Nk (Cs I (Lfa U259 I Z3 I (Lo G3 0 I (Lq I (q_eql I I I) (Nk ?_))))))))
    refine Pre.caseB 17 I (fun h2 => ?_) (fun h2 => ?_)
    · try simp only [B4] at h2
      refine c_true I (Cr I (Lm I (Lq I (q_inc I I I (by omega)) (Las I (l_nil (k_block (Kt (Cr I (Lq I (q_inc I I I (by omega)) (Lm I (l_nil (drop0 ?_))))))))))))
      exact k_round (i + 1) (by omega) (by omega) (Sub.consE I (by rw [hcs, if_pos (show isF (vw f) = true from decide_eq_true h2)]) (Sub.cons I (Sub.cons I (Sub.cons I Sub.nil)))) (fun _ h => h)
    · try simp only [B4] at h2
      refine c_false I (c_skip (k_block (Kt (Cr I (Lq I (q_inc I I I (by omega)) (Lm I (l_nil (drop0 ?_))))))))
      exact k_round (i + 1) (by omega) (by omega) (Sub.consE I (by rw [hcs, if_neg (show ¬ isF (vw f) = true from fun e => h2 (of_decide_eq_true e)), Nat.add_zero]) (Sub.cons I (Sub.cons I (Sub.cons I Sub.nil)))) (fun _ h => h)
  · try simp only [B4] at h1
    refine c_false I (c_exit (k_then_exit (k_then_exit (k_block_exit (Kt (Cs I (Lm I (Ak I (c_ret (r_one I I ?_))))))))))
    exact fun _ h => ⟨(), congrArg (fun z => Ending.returned (Value.int .i64 z)) (by rw [List.take_of_length_le (by omega)]; rfl), trivial, h.nothing⟩
theorem line_spec {bc : Nat} {S : CS} {M : Mo} {B : Nat} (hR : Rel S M) (hO : M.Ok B) : Con Tryz.prog 99 [.pointer (some ⟨bc, 0, none⟩)] (fun w => CR w bc S) [] (fun v : Value => v) (fun _ => True) (fun v => [rowE v 3 (encI .i64) (M.line.map Prod.fst)]) := by
  intro w hC hH
  refine enter (n := 22) (vs := [.pointer (some ⟨bc, 0, none⟩)]) (St w [] []) func99 I I I (St.init hH) ?_
  refine c_seq ?_
  have hll := hR.lnl
  have hlB := hO.lB
  have hB9 := hO.B9
  refine Cr I (Ak I (Cs I (Ak I (c_seq (Cs I (Lm I (Lc I (Lfa U257 I Z255 I (Lq I (q_loadC I G255 I (fun _ h => (CR.keep hC h).c) I) (Lq I (q_lenV I U255 I (fun _ h => hC.l.keep h (by simp [dom]))) (Lm I (Nk (c_block (row0 3 (encI .i64) none ?_))))))))))))))
  refine c_loop2 (fun (i : Nat) (v : Value) => [(3, v), (9, S.vL), (10, .int .i64 (S.ln.length : Int)), (11, .int .i64 (i : Int))]) (fun (i : Nat) (v : Value) => St w [] [rowE v 3 (encI .i64) ((M.line.take i).map Prod.fst)]) (fun (i : Nat) (v : Value) => i ≤ S.ln.length) (fun (i : Nat) (v : Value) => S.ln.length - i) (0) (.slice none 0 0) (Nat.zero_le _) (Sn I (Sn I (Sn I (Sn I (Sub.nil))))) Ih ?_
  intro i v hi
  refine c_seq ?_
  have htl := List.length_take_le i M.line
  have htm : ((M.line.take i).map Prod.fst).length ≤ i := by rw [List.length_map]; exact htl
  refine Cr I (Lq I (q_lss I I I) (Ns ?_))
  refine Pre.caseB 12 I (fun h1 => ?_) (fun h1 => ?_)
  · try simp only [B4] at h1
    obtain ⟨q, hq⟩ : ∃ q, M.line[i]? = some q := ⟨_, List.getElem?_eq_getElem (by omega)⟩
    have hli : S.ln[i]? = some (wn q) := by rw [hR.ln, List.getElem?_map, hq]; rfl
    refine c_true I (c_skip (Ks (c_block (Cs I (Lq I (q_indexV i I U255 Z277 I (fun _ h => hC.l.keep h (by simp [dom])) I I (by omega)) (Lq I (q_loadVAgg i I G277 Z277 I I (fun _ h => hC.l.keep h (by simp [dom])) hli) (l_e I (e_alloc I I I zeroValue277 ?_))))))))
    intro bw
    refine l_e I (e_storeAgg I I Z277 I I I (Wn.one _) (by show 0 + 3 ≤ 3; decide) (cells_eq (show Sep.splice _ 0 ((wn q)).c = ((wn q)).c from Sep.splice_all I) (Nk (Cr I (Lm I (Lfa U277 I Z3 I (Lo G3 0 I (l_e I (e_buildSliceV (sz := 1) [.tmp 17] I I I I I U22 Z3 I zeroValue3 I ?_)))))))))
    intro b1
    refine pull2 (l_e I (e_append I I I U22 U22 info3 I I I I I (fun _ h => lit_rd (h.at 1 I) (encI .i64) [q.1] I I) (by simp only [byt3, List.length_append, List.length_cons, List.length_nil]; omega) (by simp only [List.length_append, List.length_cons, List.length_nil]; omega) ?_))
    intro v2
    refine row_eq (show _ = (M.line.take (i + 1)).map Prod.fst from by rw [List.take_add_one, hq, List.map_append]; rfl) (pull1 (drop0 (Las I (l_nil (k_block (Kt (Cr I (Lq I (q_inc I I I (by omega)) (Lm I (l_nil (pull1 (drop0 ?_))))))))))))
    exact k_round ((i + 1, v2)) (by dsimp only; omega) (by dsimp only; omega) (Sub.cons I (Sub.cons I (Sub.cons I (Sub.cons I (Sub.nil))))) (fun _ h => h)
  · try simp only [B4] at h1
    have hfin : ((M.line.take i).map Prod.fst) = M.line.map Prod.fst := by rw [List.take_of_length_le (by omega)]
    refine row_eq hfin (c_false I (c_exit (k_then_exit (k_then_exit (k_block_exit (Kt (Cs I (Lm I (Ak I (c_ret (r_one I I ?_)))))))))))
    exact fun _ h => ⟨v, rfl, trivial, h⟩
theorem node_part (f : FC) : (f.c.drop 6).take 5 = f.nv.c := rfl
def NR (w : World) (S : CS) : Prop := ∀ f ∈ S.fl, NRd w f.nv
theorem NR.keep {w0 w : World} {S : CS} {H : List Ent} (h : NR w0 S) (s : St w0 [] H w) : NR w S := fun f hf => (h f hf).keep s
theorem node_some {M : Mo} {b : Int} {i : Nat} (h : M.frI b 2 = some i) : M.node b = ((M.at' i).nd, true) := by unfold Mo.node Mo.ready; rw [h]
theorem node_none {M : Mo} {b : Int} (h : M.frI b 2 = none) : M.node b = (nd0, false) := by unfold Mo.node Mo.ready; rw [h]
theorem maygo_spec {bc : Nat} {S : CS} {M : Mo} {B : Nat} (hR : Rel S M) (hO : M.Ok B) (t : Int) : Con Tryz.prog 132 [.pointer (some ⟨bc, 0, none⟩), .int .i64 t] (fun w => CR w bc S) [] (fun _ : Unit => .bool (M.may t)) (fun _ => True) (fun _ => []) := by
  intro w hC hH
  refine enter (n := 41) (vs := [.pointer (some ⟨bc, 0, none⟩), .int .i64 t]) (St w [] []) func132 I I I (St.init hH) ?_
  refine Cs I (Ak I (c_seq (Cs I (Lm I (l_e I (e_call_00 (task_spec t) I I I call190 I Tt ?_))))))
  intro _ _
  refine Lq I (q_not I I) (Lm I ?_)
  refine Pre.caseB 9 I (fun h1 => ?_) (fun h1 => ?_)
  · try simp only [B4] at h1
    refine Lx I (Lx I (Lx I (Lq I (q_pick_t I I I) (Nk (c_true I (Cs I (Ak I (c_ret (k_then_ret (r_one I I ?_))))))))))
    exact fun _ h => ⟨(), congrArg (fun z => Ending.returned (Value.bool z)) (by unfold Mo.may; rw [h1]; rfl), trivial, h.nothing⟩
  · try simp only [B4] at h1
    refine Lm I (Lm I (l_e I (e_call_00 (waits_spec hR hO t) I I I call191 I (fun _ h => CR.keep hC h) ?_)))
    intro _ _
    refine Lq I (q_pick_f I I I) (Nk ?_)
    refine Pre.caseB 13 I (fun h2 => ?_) (fun h2 => ?_)
    · try simp only [B4] at h2
      refine c_true I (Cs I (Ak I (c_ret (k_then_ret (r_one I I ?_)))))
      exact fun _ h => ⟨(), congrArg (fun z => Ending.returned (Value.bool z)) (by unfold Mo.may; rw [h1, h2]; rfl), trivial, h.nothing⟩
    · try simp only [B4] at h2
      refine c_false I (c_skip (Kt (Cs I (Lm I (Lm I (l_e I (e_call_00 (stands_spec hR hO t) I I I call192 I (fun _ h => CR.keep hC h) ?_)))))))
      intro _ _
      refine Ak I (c_seq ?_)
      refine opt_cases (M.stand t) (fun hs => ?_) (fun k hs => ?_)
      · refine Sv' 5 (.int .i64 (-1)) I (by rw [hs]; rfl) (Cr I (Lm I (Lq I (q_lss I I I) (Lm I (Sb 19 true I (I) (Lx I (Lx I (Lx I (Lx I (Lx I (Lx I (Lx I (Lq I (q_pick_t I I I) (Lm I (Lx I (Lx I (Lx I (Lx I (Lx I (Lx I (Lx I (Lx I (Lx I ?_)))))))))))))))))))))))
        refine Lx I (Lx I (Lq I (q_pick_t I I I) (Ak I (c_ret (r_one I I ?_)))))
        exact fun _ h => ⟨(), congrArg (fun z => Ending.returned (Value.bool z)) ((may_none h1 h2 hs).symm), trivial, h.nothing⟩
      · obtain ⟨q, hq, hqt⟩ := stand_at hs
        have hmy := may_some h1 h2 hs hq
        have hlk : S.ln[k]? = some (wn q) := by rw [hR.ln, List.getElem?_map, hq]; rfl
        have hlt := (List.getElem?_eq_some_iff.1 hlk).1
        refine Sv' 5 (.int .i64 (k : Int)) I (by rw [hs]; rfl) (Cr I (Lm I (Lq I (q_lss I I I) (Lm I (Sb 19 false I (decide_eq_false (by omega)) (Lm I (Lq I (q_eql I I I) (Lm I ?_))))))))
        refine Pre.caseB 22 I (fun hk => ?_) (fun hk => ?_)
        · try simp only [B4] at hk
          refine Lm I (l_e I (e_call_00 (freen_spec hR hO) I I I call193 I (fun _ h => CR.keep hC h) ?_))
          intro _ _
          refine Lq I (q_gtr I I I) (Lq I (q_pick_t I I I) (Lq I (q_pick_f I I I) (Lm I ?_)))
          refine Pre.caseB 28 I (fun hfr => ?_) (fun hfr => ?_)
          · try simp only [B4] at hfr
            refine Lx I (Lx I (Lx I (Lx I (Lx I (Lx I (Lx I (Lx I (Lx I (Lx I (Lx I (Lq I (q_pick_t I I I) (Ak I (c_ret (r_one I I ?_))))))))))))))
            exact fun _ h => ⟨(), congrArg (fun z => Ending.returned (Value.bool z)) (by rw [hmy, decide_eq_true (show k = 0 by omega), decide_eq_true (show 0 < M.free by omega)]; rfl), trivial, h.nothing⟩
          · try simp only [B4] at hfr
            refine Lm I (Lm I (Lc I (Lfa U257 I Z255 I (Lq I (q_loadC I G255 I (fun _ h => (CR.keep hC h).c) I) (Lm I (Lq I (q_indexV k I U255 Z277 I (fun _ h => hC.l.keep h (by simp [dom])) I I (by omega)) (Lfa U277 I Z3 I (Lq I (q_loadV k 1 I G3 I I (fun _ h => hC.l.keep h (by simp [dom])) hlk I) (l_e I (e_call_00 (place_spec hR hO q.2) I I I call194 I (fun _ h => CR.keep hC h) ?_))))))))))
            intro _ _
            refine Lq I (q_geq I I I) (Lq I (q_pick_f I I I) (Ak I (c_ret (r_one I I ?_))))
            exact fun _ h => ⟨(), congrArg (fun z => Ending.returned (Value.bool z)) (by rw [hmy, io_ge]; first | rfl | (rw [show decide (k = 0) = false from decide_eq_false (by omega)]; rfl) | (rw [show decide (0 < M.free) = false from decide_eq_false (by omega), Bool.and_false]; rfl)), trivial, h.nothing⟩
        · try simp only [B4] at hk
          refine Lx I (Lx I (Lx I (Lq I (q_pick_f I I I) (Lq I (q_pick_f I I I) (Lm I (Lm I (Lm I (Lc I (Lfa U257 I Z255 I (Lq I (q_loadC I G255 I (fun _ h => (CR.keep hC h).c) I) (Lm I (Lq I (q_indexV k I U255 Z277 I (fun _ h => hC.l.keep h (by simp [dom])) I I (by omega)) (Lfa U277 I Z3 I (Lq I (q_loadV k 1 I G3 I I (fun _ h => hC.l.keep h (by simp [dom])) hlk I) (l_e I (e_call_00 (place_spec hR hO q.2) I I I call194 I (fun _ h => CR.keep hC h) ?_))))))))))))))))
          intro _ _
          refine Lq I (q_geq I I I) (Lq I (q_pick_f I I I) (Ak I (c_ret (r_one I I ?_))))
          exact fun _ h => ⟨(), congrArg (fun z => Ending.returned (Value.bool z)) (by rw [hmy, io_ge]; first | rfl | (rw [show decide (k = 0) = false from decide_eq_false (by omega)]; rfl) | (rw [show decide (0 < M.free) = false from decide_eq_false (by omega), Bool.and_false]; rfl)), trivial, h.nothing⟩
theorem claimed_spec {bc : Nat} {S : CS} {M : Mo} {B : Nat} (hR : Rel S M) (hO : M.Ok B) (t : Int) : Con Tryz.prog 291 [.pointer (some ⟨bc, 0, none⟩), .int .i64 t] (fun w => CR w bc S) [] (fun v : Value => v) (fun _ => True) (fun v => [rowE v 284 (encFp S.vF) (cls M t M.fr.length)]) := by
  intro w hC hH
  refine enter (n := 41) (vs := [.pointer (some ⟨bc, 0, none⟩), .int .i64 t]) (St w [] []) func291 I I I (St.init hH) ?_
  refine c_seq ?_
  have hfl := hR.len
  have h64 := hO.n64
  refine Cr I (Ak I (Cs I (Ak I (c_seq (Cs I (Lm I (Lc I (Lfa U257 I Z253 I (Lq I (q_loadC I G253 I (fun _ h => (CR.keep hC h).c) I) (Lq I (q_lenV I U253 I (fun _ h => hC.f.keep h (by simp [dom]))) (Lm I (Nk (c_block (row0 284 (encFp S.vF) none ?_))))))))))))))
  refine c_loop2 (fun (i : Nat) (v : Value) => [(0, .pointer (some ⟨bc, 0, none⟩)), (1, .int .i64 t), (5, v), (12, .int .i64 (S.fl.length : Int)), (13, .int .i64 (i : Int))]) (fun (i : Nat) (v : Value) => St w [] [rowE v 284 (encFp S.vF) (cls M t i)]) (fun (i : Nat) (v : Value) => i ≤ S.fl.length) (fun (i : Nat) (v : Value) => S.fl.length - i) (0) (.slice none 0 0) (Nat.zero_le _) (Sn I (Sn I (Sn I (Sn I (Sn I (Sub.nil)))))) Ih ?_
  intro i v hi
  refine c_seq ?_
  have hcl := cls_len M t i
  refine Cr I (Lq I (q_lss I I I) (Ns ?_))
  refine Pre.caseB 14 I (fun h1 => ?_) (fun h1 => ?_)
  · try simp only [B4] at h1
    obtain ⟨f, hfi⟩ : ∃ f, S.fl[i]? = some f := ⟨_, List.getElem?_eq_getElem (by omega)⟩
    have hv := hR.vw_at hfi
    have hcs := cls_succ M t i
    rw [at_eq hv, isC_vw] at hcs
    refine c_true I (c_skip (Ks (c_block (Cs I (Lm I (Ak I (Cs I (Lm I (Lc I (Lfa U257 I Z253 I (Lq I (q_loadC I G253 I (fun _ h => (CR.keep hC h).c) I) (Lm I (Lq I (q_indexV i I U253 Z259 I (fun _ h => hC.f.keep h (by simp [dom])) I I (by omega)) (Ak I (Cs I (Lm I (Lc I (Lfa U259 I Z3 I (Lq I (q_loadV i 0 I G3 I I (fun _ h => hC.f.keep h (by simp [dom])) hfi I) (Lq I (q_eql I I I) (Lm I ?_)))))))))))))))))))))
    refine Pre.caseB 27 I (fun h2 => ?_) (fun h2 => ?_)
    · try simp only [B4] at h2
      refine Lm I (Lc I (Lfa U259 I Z3 I (Lq I (q_loadV i 2 I G3 I I (fun _ h => hC.f.keep h (by simp [dom])) hfi I) (Lm I (Lq I (q_eql I I I) (Lq I (q_pick_t I I I) (Nk ?_)))))))
      refine Pre.caseB 34 I (fun h3 => ?_) (fun h3 => ?_)
      · try simp only [B4] at h3
        rw [decide_eq_true h2, decide_eq_true h3, Bool.and_self, if_pos rfl] at hcs
        refine c_true I (Cr I (Lm I (Lm I (l_e I (e_buildSliceV (sz := 1) [.tmp 36] I I I I I U379 sizeOf284 I zeroValue284 I ?_)))))
        intro b1
        refine pull1 (l_e I (e_append I I I U379 U379 info284 I I I I I (fun _ h => lit_rd (h.at 1 I) (encFp S.vF) [i] I I) (by simp only [byt284, List.length_append, List.length_cons, List.length_nil]; omega) (by simp only [List.length_append, List.length_cons, List.length_nil]; omega) ?_))
        intro v2
        refine pull1 (drop0 (Las I (l_nil (k_block (Kt (Cr I (Lq I (q_inc I I I (by omega)) (Lm I (l_nil ?_)))))))))
        exact k_round ((i + 1, v2)) (by dsimp only; omega) (by dsimp only; omega) (Sub.cons I (Sub.cons I (Sub.cons I (Sub.cons I (Sub.cons I (Sub.nil)))))) (fun _ h => by dsimp only; rw [hcs]; exact h)
      · try simp only [B4] at h3
        rw [decide_eq_true h2, decide_eq_false h3, Bool.and_false, if_neg (by decide)] at hcs
        refine c_false I (c_skip (k_block (Kt (Cr I (Lq I (q_inc I I I (by omega)) (Lm I (l_nil ?_)))))))
        exact k_round ((i + 1, v)) (by dsimp only; omega) (by dsimp only; omega) (Sub.cons I (Sub.cons I (Sub.cons I (Sub.cons I (Sub.cons I (Sub.nil)))))) (fun _ h => by dsimp only; rw [hcs]; exact h)
    · try simp only [B4] at h2
      rw [decide_eq_false h2, Bool.false_and, if_neg (by decide)] at hcs
      refine Lx I (Lx I (Lx I (Lx I (Lx I (Lx I (Lq I (q_pick_f I I I) (Nk (c_false I (c_skip (k_block (Kt (Cr I (Lq I (q_inc I I I (by omega)) (Lm I (l_nil ?_)))))))))))))))
      exact k_round ((i + 1, v)) (by dsimp only; omega) (by dsimp only; omega) (Sub.cons I (Sub.cons I (Sub.cons I (Sub.cons I (Sub.cons I (Sub.nil)))))) (fun _ h => by dsimp only; rw [hcs]; exact h)
  · try simp only [B4] at h1
    have hie : i = M.fr.length := by omega
    subst hie
    refine c_false I (c_exit (k_then_exit (k_then_exit (k_block_exit (Kt (Cs I (Lm I (Ak I (c_ret (r_one I I ?_))))))))))
    exact fun _ h => ⟨v, rfl, trivial, h⟩
theorem own_spec (nv : NV) (hn : nv.d.Sm 65536) : Con Tryz.prog 155 [.agg nv.c.toArray] (fun w => NRd w nv) [] (fun s : N4 => .agg (⟨s, nv.d⟩ : NV).c.toArray) (fun _ => True) (fun s => nrows ⟨s, nv.d⟩) := by
  intro w hE hH
  refine enter (n := 20) (vs := [.agg nv.c.toArray]) (St w [] []) func155 I I I (St.init hH) ?_
  refine Cs I (l_e I (e_box I I I I ?_))
  intro bn
  refine cells_eq (show _ = nv.c from I) (l_e I (e_alloc I I I zeroValue135 ?_))
  intro bo
  refine cells_eq (show _ = nv0.c from I) (Ns (D4 [(0,O),(1,O),(3,O),(4,O),(6,O),(7,O),(9,O),(10,O),(2,V),(12,O),(5,V),(8,V),(11,V),(13,W),(14,W),(15,W),(16,W),(17,W),(18,W),(19,W)] [13, 14, 15, 16, 17, 18, 19] [(_,O),(_,O),(_,O),(_,O),(_,O),(_,O),(_,O),(_,O),(_,V),(_,O),(_,V),(_,V),(_,V),(_,W),(_,W),(_,W),(_,W),(_,W),(_,W),(_,W)] (fun w2 => (cellsE bn 135 nv.c).at w2) I I I I St.drawn (Hat 1 I) (Dfa U135 I Z49 I (Dq I (q_loadC I G49 I Ih I) (Dfa U135 I Z22 I (Dq I (q_loadC I G22 I Ih I) (Dfa U135 I Z132 I (Dq I (q_loadC I isAgg132 I Ih I) (Dfa U135 I Z133 I (Dq I (q_loadC I isAgg133 I Ih I) (d_e I (e_call_01 (clonee_spec nv.d.es hn.e) I I I call220 I (fun _ h => hE.e.keep h (by simp [dom])) ?_))))))))))))
  intro ve _
  refine d_held (Hat 2 I) (Dfa U135 I Z49 I (Pre.fact (fun _ h => rd_sv (h.rd 0 I)) ?_))
  rintro ⟨s1, rfl⟩
  refine d_e I (e_call_01 (clonei_spec nv.d.kids hn.k) I I I call107 I (fun _ h => hE.k.keep h (by simp [dom])) ?_)
  intro vk _
  refine d_held (Hat 3 I) (Pre.fact (fun _ h => rd_sv (h.rd 0 I)) ?_)
  rintro ⟨s2, rfl⟩
  refine d_e I (e_call_01 (clonek_spec nv.d.piv hn.p) I I I call221 I (fun _ h => hE.p.keep h (by simp [dom])) ?_)
  intro vp _
  refine d_held (Hat 4 I) (Pre.fact (fun _ h => rd_sv (h.rd 0 I)) ?_)
  rintro ⟨s3, rfl⟩
  refine d_e I (e_call_01 (clonem_spec nv.d.msgs hn.m) I I I call222 I (fun _ h => hE.m.keep h (by simp [dom])) ?_)
  intro vm _
  refine d_held (Hat 5 I) (Pre.fact (fun _ h => rd_sv (h.rd 0 I)) ?_)
  rintro ⟨s4, rfl⟩
  refine pull5 (d_t I (e_store I I Z49 I I I (by show 1 < 5; decide) (cells_eq (show _ = (⟨⟨s1, nv.s.k, nv.s.p, nv.s.m⟩, nv.d⟩ : NV).c from I) (d_t I (e_q I I (q_fieldAddr I U135 I Z22 I I) (d_t I (e_store I I Z22 I I I (by show 2 < 5; decide) (cells_eq (show _ = (⟨⟨s1, s2, nv.s.p, nv.s.m⟩, nv.d⟩ : NV).c from I) (d_t I (e_q I I (q_fieldAddr I U135 I Z132 I I) (d_t I (e_store I I Z132 I I I (by show 3 < 5; decide) (cells_eq (show _ = (⟨⟨s1, s2, s3, nv.s.m⟩, nv.d⟩ : NV).c from I) (d_t I (e_q I I (q_fieldAddr I U135 I Z133 I I) (d_t I (e_store I I Z133 I I I (by show 4 < 5; decide) (cells_eq (show _ = (⟨⟨s1, s2, s3, s4⟩, nv.d⟩ : NV).c from I) (d_nil (Kt (Cs I (Lq I (q_loadCAgg ((⟨⟨s1, s2, s3, s4⟩, nv.d⟩ : NV).c) I G135 Z135 I (Hat 0 I) (I) (I)) (pull5 ?_)))))))))))))))))))))))
  refine l_e I (e_storeAgg I I Z135 I I I (NV.one _) (by show 0 + 5 ≤ 5; decide) (cells_eq (show Sep.splice _ 0 (⟨⟨s1, s2, s3, s4⟩, nv.d⟩ : NV).c = (⟨⟨s1, s2, s3, s4⟩, nv.d⟩ : NV).c from Sep.splice_all I) (Nk (c_ret (pull2 (pull3 (pull4 (pull5 (r_res1 I (res_cellA I G135 Z135 (Hat 4 I) (I)) ?_)))))))))
  exact fun _ h => ⟨⟨s1, s2, s3, s4⟩, rfl, trivial, h.sublist (List.cons_sublist_cons.2 (List.cons_sublist_cons.2 (List.cons_sublist_cons.2 (List.cons_sublist_cons.2 (List.nil_sublist _)))))⟩
theorem CR.ofm {w0 w : World} {D : List Nat} {bc : Nat} {S : CS} {H : List Ent} (h : St w0 D H w) (hs : ∀ e ∈ S.H bc, e ∈ H) : CR w bc S := by
  have at' : ∀ e, e ∈ S.H bc → e.at w := fun e he => h.hp.holds e (hs e he)
  have m0 : ∀ e (k : Nat), (S.H bc)[k]? = some e → e.at w := fun e k hk => at' e (List.mem_of_getElem? hk)
  exact ⟨m0 _ 0 rfl, rowE_rd (m0 _ 1 I), m0 _ 2 rfl, m0 _ 3 rfl, rowE_rd (m0 _ 4 I), fun q hq => rowE_rd (at' _ (List.mem_append_right _ (List.mem_map.2 ⟨q, hq, rfl⟩)))⟩
theorem Rel.line {S : CS} {M : Mo} (h : Rel S M) (v : Value) (l : List (Int × Int)) : Rel { S with vL := v, ln := l.map wn } { M with line := l } := ⟨h.fr, rfl, h.hd, h.at', h.ld, h.nd, h.na⟩
theorem nodup_erase {l : List (Int × Int)} (h : (l.map Prod.fst).Nodup) (i : Nat) : ((l.eraseIdx i).map Prod.fst).Nodup := h.sublist ((List.eraseIdx_sublist ..).map _)
theorem Mo.Ok.mono {M : Mo} {B C : Nat} (h : M.Ok B) (hBC : B ≤ C) (hC : C ≤ 60000) : M.Ok C :=
  ⟨h.n1, h.n64, h.st, h.none', h.blk, h.own, h.own0, fun f hf => ⟨(h.pins f hf).1, Int.le_trans (h.pins f hf).2 (by omega)⟩, h.uni, Nat.le_trans h.ll hBC, Nat.le_trans h.lB hBC, h.ln, h.lb, h.lo, h.es, h.hw, hC⟩
theorem leave_ok {M : Mo} {B : Nat} (h : M.Ok B) (t : Int) : (M.leave t).Ok B := by
  refine ⟨h.n1, h.n64, h.st, h.none', h.blk, h.own, h.own0, h.pins, h.uni, h.ll, ?_, ?_, ?_, h.lo, h.es, h.hw, h.B9⟩
  · show (M.leave t).line.length ≤ B
    unfold Mo.leave
    simp only
    split
    · exact Nat.le_trans (List.length_eraseIdx_le ..) h.lB
    · exact h.lB
  · show ((M.leave t).line.map Prod.fst).Nodup
    unfold Mo.leave
    simp only
    split
    · exact nodup_erase h.ln _
    · exact h.ln
  · intro q hq
    refine h.lb q ?_
    have hq' : q ∈ (M.leave t).line := hq
    unfold Mo.leave at hq'
    simp only at hq'
    split at hq'
    · exact (List.eraseIdx_sublist ..).subset hq'
    · exact hq'
theorem ask_ok {M : Mo} {B : Nat} (h : M.Ok B) (t b : Int) (hb : -1 ≤ b ∧ b < 256) (hB : B + 1 ≤ 60000) : (M.ask t b).Ok (B + 1) := by
  have h' := h.mono (Nat.le_succ B) hB
  refine ⟨h.n1, h.n64, h.st, h.none', h.blk, h.own, h.own0, h'.pins, h.uni, h'.ll, ?_, ?_, ?_, h.lo, h.es, h.hw, hB⟩
  · show (M.ask t b).line.length ≤ B + 1
    unfold Mo.ask
    simp only
    split
    · rw [List.length_append]; have := h.lB; simp; omega
    · have := h.lB; omega
  · show ((M.ask t b).line.map Prod.fst).Nodup
    unfold Mo.ask
    simp only
    split
    · rename_i hs
      rw [List.map_append, List.nodup_append]
      refine ⟨h.ln, by simp, fun a ha c hc e => ?_⟩
      simp only [List.map_cons, List.map_nil, List.mem_singleton] at hc
      subst hc; subst e
      obtain ⟨q, hq, rfl⟩ := List.mem_map.1 ha
      have := fst1_no (Option.isNone_iff_eq_none.1 hs) q hq
      simp [isT] at this
    · exact h.ln
  · intro q hq
    have hq' : q ∈ (M.ask t b).line := hq
    unfold Mo.ask at hq'
    simp only at hq'
    split at hq'
    · rcases List.mem_append.1 hq' with hq' | hq'
      · exact h.lb q hq'
      · simp only [List.mem_singleton] at hq'; subst hq'; exact hb
    · exact h.lb q hq'
theorem erase_wn (l : List (Int × Int)) (i : Nat) : (l.map wn).eraseIdx i = (l.eraseIdx i).map wn := (eraseIdx_map' wn l i).symm
theorem node_spec {bc : Nat} {S : CS} {M : Mo} {B : Nat} (hR : Rel S M) (hO : M.Ok B) (b : Int) : Con Tryz.prog 116 [.pointer (some ⟨bc, 0, none⟩), .int .i64 b] (fun w => CR w bc S ∧ NR w S) [] (fun s : N4 => .tuple #[.agg (⟨s, (M.node b).1⟩ : NV).c.toArray, .bool (M.node b).2]) (fun _ => True) (fun s => nrows ⟨s, (M.node b).1⟩) := by
  intro w hE hH
  obtain ⟨hC, hN⟩ := hE
  refine enter (n := 18) (vs := [.pointer (some ⟨bc, 0, none⟩), .int .i64 b]) (St w [] []) func116 I I I (St.init hH) ?_
  refine Cs I (l_e I (e_alloc I I I zeroValue135 ?_))
  intro bo
  refine cells_eq (show _ = nv0.c from I) (Ak I (Cs I (Lm I (Lm I (l_e I (e_call_00 (frame_spec hR hO b 2) I I I call165 I (fun _ h => CR.keep hC h) ?_))))))
  intro _ _
  refine Ak I (c_seq (c_seq ?_))
  refine opt_cases (M.frI b 2) (fun hf => ?_) (fun i hf => ?_)
  · refine Sv' 6 (.pointer none) I (by rw [hf]; rfl) (Cr I (Lm I (Lq I (q_eqp I U284 I I) (Nk (Sb 11 true I (I) (c_true I (Cs I (Lq I (q_build (nv0.c) I I (fun w => by kernel_rfl)) (l_e I (e_storeAgg I I Z135 I I I (NV.one _) (by show 0 + 5 ≤ 5; decide) (cells_eq (show Sep.splice _ 0 (nv0).c = (nv0).c from Sep.splice_all I) (Ak I (c_ret (k_then_ret (row0 154 Ms.enc none (row0 77 (Kv.enc 8) none (row0 3 (encI .i64) none (row0 79 En.enc none (r_res2 I (res_cellA I G135 Z135 (Hat 4 I) (I)) (show Sep.look _ _ = some _ from I) ?_)))))))))))))))))))
    exact fun _ h => ⟨n40, by rw [node_none hf]; rfl, trivial, by rw [node_none hf]; exact h.sublist (List.cons_sublist_cons.2 (List.cons_sublist_cons.2 (List.cons_sublist_cons.2 (List.cons_sublist_cons.2 (List.nil_sublist _)))))⟩
  · obtain ⟨hf1, hst⟩ := frI_at hf
    obtain ⟨y, hy, hyb, hys, hya⟩ := find_at hf1
    obtain ⟨f, hfi, hfy⟩ := hR.get hy
    have hlt := (List.getElem?_eq_some_iff.1 hfi).1
    have hnd := node_some hf
    rw [hya, ← hfy] at hnd
    have hfm := List.mem_of_getElem? hfi
    have hes : f.nv.d.Sm 65536 := by
      have := hO.es y (List.mem_of_getElem? hy)
      rw [← hfy] at this; exact this.mono (by decide)
    refine Sv' 6 (fp S.vF i) I (by rw [hf]; rfl) (Cr I (Lm I (Lq I (q_eqp I U284 I I) (Nk (Sb 11 false I (I) (c_false I (c_skip (Kt (Cs I (Lm I (Lc I (Lfa U259 I Z135 I (Lq I (q_loadVPart i 6 I G135 Z135 I I (fun _ h => hC.f.keep h (by simp [dom])) hfi (by decide)) (Sv' 16 (.agg f.nv.c.toArray) I (by rfl) (l_e I (e_call_04 (own_spec f.nv hes) I I I call155 I (fun _ h => (NR.keep hN h) f hfm) ?_))))))))))))))))
    intro s _
    refine pull4 (l_e I (e_storeAgg I I Z135 I I I (NV.one _) (by show 0 + 5 ≤ 5; decide) (cells_eq (show Sep.splice _ 0 ((⟨s, f.nv.d⟩ : NV)).c = ((⟨s, f.nv.d⟩ : NV)).c from Sep.splice_all I) (Ak I (c_ret (pull4 (pull4 (pull4 (pull4 (r_res2 I (res_cellA I G135 Z135 (Hat 4 I) (I)) (show Sep.look _ _ = some _ from I) ?_))))))))))
    exact fun _ h => ⟨s, by rw [hnd]; rfl, trivial, by rw [hnd]; exact h.sublist (List.cons_sublist_cons.2 (List.cons_sublist_cons.2 (List.cons_sublist_cons.2 (List.cons_sublist_cons.2 (List.nil_sublist _)))))⟩
theorem frames_spec {bc : Nat} {S : CS} {M : Mo} {B : Nat} (hR : Rel S M) (hO : M.Ok B) : Con Tryz.prog 97 [.pointer (some ⟨bc, 0, none⟩)] (fun w => CR w bc S ∧ NR w S) [] (fun b : Value × List FC × List Ent => b.1) (fun b => b.2.1.map vw = M.fr ∧ ∀ f ∈ b.2.1, ∀ e ∈ nrows f.nv, e ∈ b.2.2) (fun b => rowE b.1 202 FC.encA b.2.1 :: b.2.2) := by
  intro w hE hH
  obtain ⟨hC, hN⟩ := hE
  refine enter (n := 34) (vs := [.pointer (some ⟨bc, 0, none⟩)]) (St w [] []) func97 I I I (St.init hH) ?_
  refine c_seq ?_
  have hfl := hR.len
  have h64 := hO.n64
  refine Cr I (Ak I (Cs I (Ak I (c_seq (Cs I (Lm I (Lc I (Lfa U257 I Z253 I (Lq I (q_loadC I G253 I (fun _ h => (CR.keep hC h).c) I) (Lq I (q_lenV I U253 I (fun _ h => hC.f.keep h (by simp [dom]))) (Lm I (Nk (c_block (row0 202 FC.encA none ?_))))))))))))))
  refine c_loop4 (fun (i : Nat) (v : Value) (fs : List FC) (G : List Ent) => [(3, v), (9, S.vF), (10, .int .i64 (S.fl.length : Int)), (11, .int .i64 (i : Int))]) (fun (i : Nat) (v : Value) (fs : List FC) (G : List Ent) => St w [] (rowE v 202 FC.encA fs :: G)) (fun (i : Nat) (v : Value) (fs : List FC) (G : List Ent) => i ≤ S.fl.length ∧ fs.map vw = M.fr.take i ∧ ∀ f ∈ fs, ∀ e ∈ nrows f.nv, e ∈ G) (fun (i : Nat) (v : Value) (fs : List FC) (G : List Ent) => S.fl.length - i) (0) (.slice none 0 0) ([]) ([]) ⟨Nat.zero_le _, rfl, fun f h => by cases h⟩ (Sn rfl (Sn rfl (Sn rfl (Sn rfl (Sub.nil))))) Ih ?_
  intro i v fs G hp
  refine c_seq ?_
  obtain ⟨hi, hfs, hG⟩ := hp
  have hfsl : fs.length ≤ i := by have := congrArg List.length hfs; rw [List.length_map, List.length_take] at this; omega
  refine Cr I (Lq I (q_lss I I I) (Ns ?_))
  refine Pre.caseB 12 I (fun h1 => ?_) (fun h1 => ?_)
  · try simp only [B4] at h1
    obtain ⟨f, hfi⟩ : ∃ f, S.fl[i]? = some f := ⟨_, List.getElem?_eq_getElem (by omega)⟩
    have hv := hR.vw_at hfi
    have hfm := List.mem_of_getElem? hfi
    have hes : f.nv.d.Sm 65536 := (hO.es (vw f) (List.mem_of_getElem? hv)).mono (by decide)
    refine c_true I (c_skip (Ks (c_block (Cs I (Lq I (q_indexV i I U253 Z259 I (fun _ h => hC.f.keep h (by simp [dom])) I I (by omega)) (Lq I (q_loadVAgg i I isAgg259 Z259 I I (fun _ h => hC.f.keep h (by simp [dom])) hfi) (l_e I (e_alloc I I I zeroValue259 ?_))))))))
    intro bf
    refine l_e I (e_storeAgg I I Z259 I I I (FC.one _) (by show 0 + 11 ≤ 11; decide) (cells_eq (show Sep.splice _ 0 (f).c = (f).c from Sep.splice_all I) (Nk (D4 [(0,O),(1,O),(2,O),(3,O),(4,O),(5,O),(6,O),(7,O),(8,O),(9,O),(10,O),(11,O),(12,O),(13,V),(14,O),(15,V),(16,V),(17,O)] [] [(_,O),(_,O),(_,O),(_,O),(_,O),(_,O),(_,O),(_,O),(_,O),(_,O),(_,O),(_,O),(_,O),(_,V),(_,O),(_,V),(_,V),(_,O)] (fun w2 => (cellsE bf 259 f.c).at w2) I I I I St.drawn (Hat 0 I) (Dm I (Dfa U259 I Z3 I (Dq I (q_loadC I G3 I Ih I) (Dfa U259 I Z3 I (Dq I (q_loadC I G3 I Ih I) (Dfa U259 I Z3 I (Dq I (q_loadC I G3 I Ih I) (Dfa U259 I Z4 I (Dq I (q_loadC I G4 I Ih I) (Dfa U259 I Z4 I (Dq I (q_loadC I G4 I Ih I) (Dfa U259 I Z135 I (Dq I (q_loadCAgg (f.nv.c) I G135 Z135 I Ih (node_part _) (I)) (d_e I (e_call_04 (own_spec f.nv hes) I I I call155 I (fun _ h => (NR.keep hN h) f hfm) ?_)))))))))))))))))))
    intro s _
    refine d_held (Hat 4 I) (Dq I (q_build (({ f with nv := ⟨s, f.nv.d⟩ } : FC).cA) I I (fun w => by kernel_rfl)) (d_e I (e_buildSliceV (sz := 13) [.tmp 29] I I I I I U198 sizeOf202 I zeroValue202 I ?_)))
    intro b2
    refine d_held (Hat 5 I) (pull6 (d_e I (e_append I I I U198 U198 info202 I I I I I (fun _ h => lit_rd (h.at 1 I) FC.encA [({ f with nv := ⟨s, f.nv.d⟩ } : FC)] I I) (by simp only [byt202, List.length_append, List.length_cons, List.length_nil]; omega) (by simp only [List.length_append, List.length_cons, List.length_nil]; omega) ?_)))
    intro v2
    refine pull1 (drop0 (d_held (Hat 5 I) (Das I (d_nil (k_block (Kt (Cr I (Lq I (q_inc I I I (by omega)) (Lm I (l_nil (pull5 (drop0 (pull4 (pull4 (pull4 (pull4 (pull4 ?_)))))))))))))))))
    exact k_round ((i + 1, v2, fs ++ [({ f with nv := ⟨s, f.nv.d⟩ } : FC)], nrows (({ f with nv := ⟨s, f.nv.d⟩ } : FC)).nv ++ G)) (by dsimp only; omega) ⟨by dsimp only; omega, by dsimp only; rw [List.map_append, hfs, List.take_add_one, hv]; rfl, fun g hg => by
        dsimp only at hg ⊢
        rcases List.mem_append.1 hg with hg | hg
        · exact fun e he => List.mem_append_right _ (hG g hg e he)
        · simp only [List.mem_singleton] at hg; subst hg; exact fun e he => List.mem_append_left _ he⟩ (Sub.cons rfl (Sub.cons rfl (Sub.cons rfl (Sub.cons rfl (Sub.nil))))) (fun _ h => h)
  · try simp only [B4] at h1
    have hfin : fs.map vw = M.fr := by rw [hfs, List.take_of_length_le (by omega)]
    refine c_false I (c_exit (k_then_exit (k_then_exit (k_block_exit (Kt (Cs I (Lm I (Ak I (c_ret (r_one I I ?_))))))))))
    exact fun _ h => ⟨(v, fs, G), rfl, ⟨hfin, hG⟩, h⟩
theorem leave_spec {bc : Nat} {S : CS} {M : Mo} {B : Nat} (hR : Rel S M) (hO : M.Ok B) (t : Int) : Con Tryz.prog 243 [.pointer (some ⟨bc, 0, none⟩), .int .i64 t] (fun _ => True) (S.H bc) (fun v : Value => .tuple #[]) (fun _ => True) (fun v => CS.H bc { S with vL := v, ln := (M.leave t).line.map wn }) := by
  intro w hE hH
  refine enter (n := 21) (vs := [.pointer (some ⟨bc, 0, none⟩), .int .i64 t]) (St w (dom (S.H bc)) (cellsE bc 257 (S).cells :: rowE (S).vF 259 FC.enc (S).fl :: mapT (S).bA kI kI (S).at' :: mapT (S).bL kI vS (S).ld :: rowE (S).vL 277 Wn.enc (S).ln :: (S).rows)) func243 I I I (St.init hH) ?_
  refine Cs I (Lm I (Lm I (l_e I (e_call_00 (stands_spec hR hO t) I I I call192 I (fun _ h => CR.ofm (S := S) h (fun e he => he)) ?_))))
  intro _ _
  refine Ak I (c_seq ?_)
  refine opt_cases (M.stand t) (fun hs => ?_) (fun i hs => ?_)
  · have hlv : (M.leave t).line = M.line := by unfold Mo.leave; rw [hs]
    refine Sv' 4 (.int .i64 (-1)) I (by rw [hs]; rfl) (Cr I (Lm I (Lq I (q_geq I I I) (Nk (Sb 9 false I (I) (c_false I (c_skip (r_normal (r_none I ?_)))))))))
    exact fun _ h => ⟨S.vL, rfl, trivial, by rw [hlv, ← hR.ln]; exact h⟩
  · have hlv : (M.leave t).line = M.line.eraseIdx i := by unfold Mo.leave; rw [hs]
    obtain ⟨q, hq, hqt⟩ := stand_at hs
    have hlt : i < S.ln.length := by rw [hR.lnl]; exact (List.getElem?_eq_some_iff.1 hq).1
    have hB := hO.lB
    have hB9 := hO.B9
    have hll := hR.lnl
    refine Sv' 4 (.int .i64 (i : Int)) I (by rw [hs]; rfl) (Cr I (Lm I (Lq I (q_geq I I I) (Nk (Sb 9 true I (decide_eq_true (by omega)) (c_true I (Cr I (Lm I (Lm I (Lc I (Lfa U257 I Z255 I (Lo G255 0 I (Lm I (Lm I (Lq I (q_inc I I I (by omega)) (pull4 (l_e I (e_call_11 (deletew_spec S.ln i hlt (by omega)) I I I call284 I Tt ?_))))))))))))))))))
    intro v _
    refine Lc I (Lfa U257 I Z255 I (row_eq (l' := (M.leave t).line.map wn) (by rw [hlv, hR.ln, erase_wn]) (Pre.fact (fun _ h => rd_sv (h.rd 0 I)) ?_)))
    rintro ⟨sv, rfl⟩
    refine pull1 (l_e I (e_store I I Z255 I I I (Nat.le_of_ble_eq_true I) (cells_eq (show _ = ({ S with vL := sv.v, ln := (M.leave t).line.map wn } : CS).cells from I) (l_nil (r_normal (pull1 (pull4 (pull4 (pull4 (pull4 (r_none I ?_)))))))))))
    exact fun _ h => ⟨sv.v, rfl, trivial, h⟩
theorem ask_spec {bc : Nat} {S : CS} {M : Mo} {B : Nat} (hR : Rel S M) (hO : M.Ok B) (t b : Int) : Con Tryz.prog 245 [.pointer (some ⟨bc, 0, none⟩), .agg (wn (t, b)).c.toArray] (fun _ => True) (S.H bc) (fun v : Value => .tuple #[]) (fun _ => True) (fun v => CS.H bc { S with vL := v, ln := (M.ask t b).line.map wn }) := by
  intro w hE hH
  refine enter (n := 19) (vs := [.pointer (some ⟨bc, 0, none⟩), .agg (wn (t, b)).c.toArray]) (St w (dom (S.H bc)) (cellsE bc 257 (S).cells :: rowE (S).vF 259 FC.enc (S).fl :: mapT (S).bA kI kI (S).at' :: mapT (S).bL kI vS (S).ld :: rowE (S).vL 277 Wn.enc (S).ln :: (S).rows)) func245 I I I (St.init hH) ?_
  refine Cs I (l_e I (e_box I I I I ?_))
  intro bw
  refine cells_eq (show _ = (wn (t, b)).c from I) (Nk (Cs I (Lm I (Lfa U277 I Z3 I (Lo G3 0 I (l_e I (e_call_00 (stands_spec hR hO t) I I I call192 I (fun _ h => CR.ofm (S := S) h (fun e he => List.mem_cons_of_mem _ (he))) ?_)))))))
  intro _ _
  refine Lq I (q_lss I I I) (Nk ?_)
  refine opt_cases (M.stand t) (fun hs => ?_) (fun i hs => ?_)
  · have hlv : (M.ask t b).line = M.line ++ [(t, b)] := by unfold Mo.ask; rw [hs]; rfl
    have hB := hO.lB
    have hB9 := hO.B9
    have hll := hR.lnl
    refine Sb 8 true I (by rw [hs]; rfl) (c_true I (D4 [(0,O),(1,O),(2,O),(3,O),(4,O),(5,O),(6,V),(7,V),(8,W),(9,W),(10,W)] [8, 9, 10] [(_,O),(_,O),(_,O),(_,O),(_,O),(_,O),(_,V),(_,V),(_,W),(_,W),(_,W)] (fun w2 => (cellsE bc 257 S.cells).at w2 ∧ (cellsE bw 277 (wn (t, b)).c).at w2) I I I I St.drawn (H2 1 0 I) (Dm I (Dm I (Dc I (Dfa U257 I Z255 I (Dq I (q_loadC I G255 I (fun _ h => h.1) I) (Dq I (q_loadCAgg ((wn (t, b)).c) I G277 Z277 I (fun _ h => h.2) (I) (I)) (d_e I (e_buildSliceV (sz := 3) [.tmp 14] I I I I I U255 Z277 I zeroValue277 I ?_))))))))))
    intro b2
    refine d_held (H2 2 1 I) (pull6 (d_e I (e_append I I I U255 U255 info277 I I I I I (fun _ h => lit_rd (h.at 1 I) Wn.enc [(wn (t, b))] I I) (by simp only [byt277, List.length_append, List.length_cons, List.length_nil]; omega) (by simp only [List.length_append, List.length_cons, List.length_nil]; omega) ?_)))
    intro v2
    refine row_eq (show _ = (M.ask t b).line.map wn from by rw [hlv, hR.ln, List.map_append]; rfl) (pull1 (drop0 (d_held (H2 2 1 I) (d_t I (e_q I I (q_nilCheck I I) (d_t I (e_q I I (q_fieldAddr I U257 I Z255 I I) (Pre.fact (fun _ h => rd_sv (h.rd 0 I)) ?_))))))))
    rintro ⟨sv, rfl⟩
    refine pull2 (d_t I (e_store I I Z255 I I I (Nat.le_of_ble_eq_true I) (cells_eq (show _ = ({ S with vL := sv.v, ln := (M.ask t b).line.map wn } : CS).cells from I) (d_nil (r_normal (pull2 (drop0 (pull1 (pull4 (pull4 (pull4 (pull4 (r_none I ?_)))))))))))))
    exact fun _ h => ⟨sv.v, rfl, trivial, h⟩
  · have hlv : (M.ask t b).line = M.line := by unfold Mo.ask; rw [hs]; rfl
    refine Sb 8 false I (by rw [hs]; exact decide_eq_false (by simp [io])) (c_false I (c_skip (r_normal (drop0 (r_none I ?_)))))
    exact fun _ h => ⟨S.vL, rfl, trivial, by rw [hlv, ← hR.ln]; exact h⟩
section
variable {P : Program} {n : Nat} {L : Env} {X : World → Prop} {o : Oper}
theorem q_eqpp {t u e : TypeId} {x y : Operand} {b o1 o2 sz : Nat} (ho : o.op = .binOp .eql t x y u) (ht : P.underlying t = some (.pointer e)) (hz : ∀ w, (sizeOf e).run P w = .ok sz w) (hs : sz ≠ 0) (hx : ev L x = some (.pointer (some ⟨b, o1, none⟩))) (hy : ev L y = some (.pointer (some ⟨b, o2, none⟩))) : QOp P n L X o (.bool (decide (o1 = o2))) :=
  q_bin ho hx hy (fun w _ => run_both rfl (bin_eq w rfl (run_equal w (fun d => by
    have hb : ((⟨b, o1, none⟩ : Addr) == ⟨b, o2, none⟩) = decide (o1 = o2) := by
      by_cases h : o1 = o2
      · subst h; simp
      · rw [decide_eq_false h]; rw [Bool.eq_false_iff]; intro h'; exact h (congrArg Addr.off (beq_iff_eq.1 h'))
    unfold Op.equalIn
    simp [run_und ht, hz, hs, sameAddr, hb]))))
end
theorem perm_out {T : List Ent} {j : Nat} {e : Ent} (hj : T[j]? = some e) : T.Perm (e :: T.eraseIdx j) := by
  induction T generalizing j with
  | nil => cases hj
  | cons a T ih =>
    cases j with
    | zero => cases hj; exact List.Perm.refl _
    | succ j => exact ((ih hj).cons a).trans (List.Perm.swap e a _)
theorem perm_in {T : List Ent} {j : Nat} {e : Ent} (hj : j < T.length) : (e :: T.eraseIdx j).Perm (T.set j e) := by
  induction T generalizing j with
  | nil => cases hj
  | cons a T ih =>
    cases j with
    | zero => exact List.Perm.refl _
    | succ j => exact (List.Perm.swap a e _).trans ((ih (by simpa using hj)).cons a)
section
variable {w0 w : World} {D : List Nat}
theorem St.pullT {pre T : List Ent} {j : Nat} {e : Ent} (hj : T[j]? = some e) (h : St w0 D (pre ++ T) w) : St w0 D (e :: (pre ++ T.eraseIdx j)) w :=
  h.perm (((perm_out hj).append_left pre).trans List.perm_middle)
theorem St.pushT {pre T : List Ent} {j : Nat} {e : Ent} (hj : j < T.length) (h : St w0 D (e :: (pre ++ T.eraseIdx j)) w) : St w0 D (pre ++ T.set j e) w :=
  h.perm (List.perm_middle.symm.trans ((perm_in hj).append_left pre))
theorem St.addT {pre T : List Ent} {e : Ent} (h : St w0 D (e :: (pre ++ T)) w) : St w0 D (pre ++ (T ++ [e])) w :=
  h.perm (by
    rw [← List.append_assoc]
    exact (List.perm_append_singleton e (pre ++ T)).symm)
end
theorem fst1_set {α : Type} {p : α → Bool} : ∀ {l : List α} {i : Nat} {x y : α}, l[i]? = some x → p y = p x → fst1 p (l.set i y) = fst1 p l
  | [], i, x, y, h, _ => by cases h
  | a :: l, 0, x, y, h, hp => by
    cases h
    unfold fst1
    simp only [List.set_cons_zero, List.findIdx?_cons, hp]
  | a :: l, i + 1, x, y, h, hp => by
    have ih := fst1_set (p := p) (l := l) (i := i) (x := x) (y := y) (by simpa using h) hp
    unfold fst1 at ih ⊢
    simp only [List.set_cons_succ, List.findIdx?_cons, ih]
theorem fst1_new {α : Type} {p : α → Bool} {l : List α} {i : Nat} {x y : α} (hi : l[i]? = some x) (hn : fst1 p l = none) (hp : p y = true) : fst1 p (l.set i y) = some i := by
  have hlt := (List.getElem?_eq_some_iff.1 hi).1
  refine fst1_some (y := y) (by rw [List.getElem?_set_self hlt]) hp (fun z hz => ?_)
  rw [List.take_set_of_le (Nat.le_refl _)] at hz
  exact fst1_no hn z (List.mem_of_mem_take hz)
theorem put_find {M : Mo} {i : Nat} {y y' : Vw} (hy : M.fr[i]? = some y) (hb : ∀ b, isB b y' = isB b y) (b : Int) : (M.put i y').find b = M.find b := fst1_set hy (hb b)
theorem putv_same {M : Mo} {i : Nat} {y y' : Vw} (hy : M.fr[i]? = some y) (hb : y'.blk = y.blk) (hs : (y'.st = 1 ∨ y'.st = 2) ↔ (y.st = 1 ∨ y.st = 2)) (b : Int) : (M.put i y').find b = M.find b :=
  put_find hy (fun c => by
    unfold isB
    rw [hb]
    congr 1
    rw [← Bool.decide_or, ← Bool.decide_or, decide_eq_decide]; exact hs) b
theorem put_new {M : Mo} {i : Nat} {y y' : Vw} {b : Int} (hy : M.fr[i]? = some y) (hf : ¬ (y.st = 1 ∨ y.st = 2)) (hn : M.find b = none) (hb : y'.blk = b) (hs : y'.st = 1 ∨ y'.st = 2) (c : Int) : (M.put i y').find c = if c = b then some i else M.find c := by
  have hy0 : ∀ c, isB c y = false := fun c => by
    unfold isB
    rw [← Bool.decide_or, decide_eq_false hf, Bool.and_false]
  split
  · rename_i e; subst e
    exact fst1_new hy hn (by unfold isB; rw [← Bool.decide_or, decide_eq_true hs, decide_eq_true hb]; rfl)
  · rename_i e
    exact fst1_set hy (by rw [hy0]; unfold isB; rw [decide_eq_false (fun e' => e (by rw [← e', hb]))]; rfl)
theorem put_ok {M : Mo} {B : Nat} (h : M.Ok B) {i : Nat} {y y' : Vw} (hy : M.fr[i]? = some y) (h1 : y'.st = 0 ∨ y'.st = 1 ∨ y'.st = 2 ∨ y'.st = 3) (h2 : y'.st = 0 ∨ y'.st = 3 → y'.blk = -1) (h3 : y'.st = 1 ∨ y'.st = 2 → 0 ≤ y'.blk ∧ y'.blk < 256) (h4 : y'.st = 3 → 0 ≤ y'.own ∧ y'.own < 8) (h5 : y'.st ≠ 3 → y'.own = 0) (h6 : 0 ≤ y'.pins ∧ y'.pins ≤ (B : Int))
    (h7 : y'.st = 1 ∨ y'.st = 2 → ∀ (j : Nat) (z : Vw), j ≠ i → M.fr[j]? = some z → z.st = 1 ∨ z.st = 2 → z.blk ≠ y'.blk) (h8 : ∀ q ∈ M.loads, y.st = 1 → y.blk = q.2 → y'.st = 1 ∧ y'.blk = q.2) (h9 : y'.nd.Sm 1000) : (M.put i y').Ok B := by
  have hlt := (List.getElem?_eq_some_iff.1 hy).1
  have hm : ∀ f ∈ (M.put i y').fr, f ∈ M.fr ∨ f = y' := fun f hf => List.mem_or_eq_of_mem_set hf
  have hg : ∀ (j : Nat), (M.put i y').fr[j]? = if j = i then some y' else M.fr[j]? := fun j => by
    show (M.fr.set i y')[j]? = _
    rw [List.getElem?_set]
    by_cases e : j = i
    · subst e; rw [if_pos rfl, if_pos hlt, if_pos rfl]
    · rw [if_neg (fun e' => e e'.symm), if_neg e]
  have hl : (M.put i y').fr.length = M.fr.length := List.length_set
  refine ⟨by rw [hl]; exact h.n1, by rw [hl]; exact h.n64, fun f hf => ?_, fun f hf hs => ?_, fun f hf hs => ?_, fun f hf hs => ?_, fun f hf hs => ?_, fun f hf => ?_, fun a b f g ha hb hf hg' e => ?_, h.ll, h.lB, h.ln, h.lb, fun q hq => ?_, fun f hf => ?_, h.hw, h.B9⟩
  · rcases hm f hf with hf | rfl; exact h.st f hf; exact h1
  · rcases hm f hf with hf | rfl; exact h.none' f hf hs; exact h2 hs
  · rcases hm f hf with hf | rfl; exact h.blk f hf hs; exact h3 hs
  · rcases hm f hf with hf | rfl; exact h.own f hf hs; exact h4 hs
  · rcases hm f hf with hf | rfl; exact h.own0 f hf hs; exact h5 hs
  · rcases hm f hf with hf | rfl; exact h.pins f hf; exact h6
  · rw [hg] at ha hb
    split at ha <;> split at hb
    · rename_i e1 e2; rw [e1, e2]
    · rename_i e1 e2; cases ha; exact absurd e.symm (h7 hf b g e2 hb hg')
    · rename_i e1 e2; cases hb; exact absurd e (h7 hg' a f e1 ha hf)
    · exact h.uni a b f g ha hb hf hg' e
  · obtain ⟨f, hf, e1, e2⟩ := h.lo q hq
    obtain ⟨j, hj⟩ := List.mem_iff_getElem?.1 hf
    by_cases e : j = i
    · subst e
      rw [hy] at hj; cases hj
      obtain ⟨g1, g2⟩ := h8 q hq e1 e2
      exact ⟨y', List.mem_of_getElem? (by rw [hg, if_pos rfl]), g1, g2⟩
    · exact ⟨f, List.mem_of_getElem? (by rw [hg, if_neg e]; exact hj), e1, e2⟩
  · rcases hm f hf with hf | rfl; exact h.es f hf; exact h9
theorem Rel.put {S : CS} {M : Mo} (h : Rel S M) {i : Nat} {f' : FC} {y' : Vw} (hv : vw f' = y') (a' : List (Int × Int)) (ha : ∀ b, mget b a' = Option.map (fun i : Nat => (i : Int)) ((M.put i y').find b)) (hna : (a'.map Prod.fst).Nodup) : Rel { S with fl := S.fl.set i f', at' := a' } (M.put i y') :=
  ⟨by show (S.fl.set i f').map vw = M.fr.set i y'; rw [List.map_set, h.fr, hv], h.ln, h.hd, ha, h.ld, h.nd, hna⟩
theorem takes_at {M : Mo} {t : Int} {k : Nat} (h : M.takes t = some k) : ∃ y, M.fr[k]? = some y ∧ y.st = 0 ∧ M.at' k = y := by
  unfold Mo.takes at h
  split at h
  · obtain ⟨y, h1, h2, _⟩ := fst1_at h
    exact ⟨y, h1, of_decide_eq_true h2, at_eq h1⟩
  · cases h
structure NvIn (G : List Ent) (v : NV) : Prop where
  e : (v.s.e = sv0 ∧ v.d.es = []) ∨ rowEn v.s.e v.d.es ∈ G
  k : (v.s.k = sv0 ∧ v.d.kids = []) ∨ rowKi v.s.k v.d.kids ∈ G
  p : (v.s.p = sv0 ∧ v.d.piv = []) ∨ rowPi v.s.p v.d.piv ∈ G
  m : (v.s.m = sv0 ∧ v.d.msgs = []) ∨ rowMs v.s.m v.d.msgs ∈ G
theorem NvIn.zero (G : List Ent) : NvIn G nv0 := ⟨.inl ⟨rfl, rfl⟩, .inl ⟨rfl, rfl⟩, .inl ⟨rfl, rfl⟩, .inl ⟨rfl, rfl⟩⟩
theorem NvIn.of {G : List Ent} {v : NV} (h : ∀ e ∈ nrows v, e ∈ G) : NvIn G v := ⟨.inr (h _ (by simp)), .inr (h _ (by simp)), .inr (h _ (by simp)), .inr (h _ (by simp))⟩
theorem NvIn.more {G G' : List Ent} {v : NV} (h : NvIn G v) (hs : ∀ e ∈ G, e ∈ G') : NvIn G' v := ⟨h.e.imp id (hs _), h.k.imp id (hs _), h.p.imp id (hs _), h.m.imp id (hs _)⟩
theorem NvIn.rd {G : List Ent} {v : NV} {H : List Ent} {w : World} (h : NvIn G v) (hp : HP H w) (hs : ∀ e ∈ G, e ∈ H) : NRd w v := by
  refine ⟨?_, ?_, ?_, ?_⟩
  · rcases h.e with ⟨h1, h2⟩ | h1
    · rw [h1, h2]; exact rd_nil _
    · exact rowE_rd (hp.holds _ (hs _ h1))
  · rcases h.k with ⟨h1, h2⟩ | h1
    · rw [h1, h2]; exact rd_nil _
    · exact rowE_rd (hp.holds _ (hs _ h1))
  · rcases h.p with ⟨h1, h2⟩ | h1
    · rw [h1, h2]; exact rd_nil _
    · exact rowE_rd (hp.holds _ (hs _ h1))
  · rcases h.m with ⟨h1, h2⟩ | h1
    · rw [h1, h2]; exact rd_nil _
    · exact rowE_rd (hp.holds _ (hs _ h1))
def NIn (G : List Ent) (fl : List FC) : Prop := ∀ f ∈ fl, NvIn G f.nv
theorem NIn.set {G : List Ent} {fl : List FC} (h : NIn G fl) {i : Nat} {f' : FC} (hf : NvIn G f'.nv) : NIn G (fl.set i f') := fun g hg => by
  rcases List.mem_or_eq_of_mem_set hg with hg | rfl
  · exact h g hg
  · exact hf
theorem NIn.set_same {G : List Ent} {fl : List FC} (h : NIn G fl) {i : Nat} {f f' : FC} (hf : fl[i]? = some f) (e : f'.nv = f.nv) : NIn G (fl.set i f') := h.set (by rw [e]; exact h f (List.mem_of_getElem? hf))
theorem placef_spec {bc : Nat} {S : CS} {k : Nat} {f : FC} (hfk : S.fl[k]? = some f) (hn : S.fl.length ≤ 65536) : Con Tryz.prog 246 [.pointer (some ⟨bc, 0, none⟩), fp S.vF k] (fun _ => True) (S.H bc) (fun _ : Unit => .tuple #[]) (fun _ => True) (fun _ => CS.H bc { S with at' := mput f.blk (k : Int) S.at' }) := by
  intro w hE hH
  refine enter (n := 31) (vs := [.pointer (some ⟨bc, 0, none⟩), fp S.vF k]) (St w (dom (S.H bc)) (cellsE bc 257 (S).cells :: rowE (S).vF 259 FC.enc (S).fl :: mapT (S).bA kI kI (S).at' :: mapT (S).bL kI vS (S).ld :: rowE (S).vL 277 Wn.enc (S).ln :: (S).rows)) func246 I I I (St.init hH) ?_
  refine c_seq ?_
  have hkl := (List.getElem?_eq_some_iff.1 hfk).1
  refine Cr I (Lm I (Lc I (Lfa U257 I Z253 I (Lo G253 0 I (Lq I (q_lenV I U253 I (Hrd 1 I)) (Lm I (Nk (c_block ?_))))))))
  refine c_loop1 (fun (i : Nat) => [(0, .pointer (some ⟨bc, 0, none⟩)), (1, fp S.vF k), (9, .int .i64 (S.fl.length : Int)), (10, .int .i64 (i : Int))]) (fun (i : Nat) => St w (dom (S.H bc)) (cellsE bc 257 (S).cells :: rowE (S).vF 259 FC.enc (S).fl :: mapT S.bA kI kI (if k < i then mput f.blk (k : Int) S.at' else S.at') :: mapT (S).bL kI vS (S).ld :: rowE (S).vL 277 Wn.enc (S).ln :: (S).rows)) (fun (i : Nat) => i ≤ S.fl.length) (fun (i : Nat) => S.fl.length - i) (0) (Nat.zero_le _) (Sn I (Sn I (Sn I (Sn I (Sub.nil))))) Ih ?_
  intro i hi
  refine Cs I (Lq I (q_lss I I I) (Ns ?_))
  refine Pre.caseB 11 I (fun h1 => ?_) (fun h1 => ?_)
  · try simp only [B4] at h1
    refine c_true I (c_skip (Ks (c_block (Cs I (Lm I (Ak I (Cs I (Lm I (Lc I (Lfa U257 I Z253 I (Lo G253 0 I (Lm I (Lq I (q_indexV i I U253 Z259 I (Hrd 1 I) I I (by omega)) (Lm I (Lq I (q_eqpp I U284 Z259 (by decide) I I) (Nk ?_))))))))))))))))
    refine Pre.caseB 20 I (fun h2 => ?_) (fun h2 => ?_)
    · try simp only [B4] at h2
      simp only [show FC.enc.sz = 11 from rfl] at h2
      have hik : i = k := by omega
      rw [if_neg (show ¬ k < i by omega)]
      refine c_true I (D4 [(0,O),(1,O),(2,O),(3,O),(4,O),(5,O),(6,O),(7,O),(8,O),(9,W)] [9] [(_,O),(_,O),(_,O),(_,O),(_,O),(_,O),(_,O),(_,O),(_,O),(_,W)] _ I I I I St.drawn Ih (Dm I (Dc I (Dfa U257 I sizeOf89 I (Dq I (q_loadC I isAgg89 I (Hat 0 I) I) (Dm I (Dc I (Dfa U259 I Z3 I (Dq I (q_loadV k 1 I G3 I I (Hrd 1 I) hfk I) (Dm I (pull2 (d_t I (e_putT f.blk (i : Int) I I U89 keyI I I I (d_nil (k_block (Kt (Cr I (Lq I (q_inc I I I (by omega)) (Lm I (l_nil (pull4 (pull4 (pull2 ?_)))))))))))))))))))))))
      refine pull4 (pull4 ?_)
      exact k_round (i + 1) (by omega) (by omega) (Sub.cons rfl (Sub.cons rfl (Sub.cons rfl (Sub.cons rfl (Sub.nil))))) (fun _ h => by rw [if_pos (show k < i + 1 by omega)]; subst hik; exact h)
    · try simp only [B4] at h2
      simp only [show FC.enc.sz = 11 from rfl] at h2
      have hkk : (k < i + 1) = (k < i) := propext (by omega)
      refine c_false I (c_skip (k_block (Kt (Cr I (Lq I (q_inc I I I (by omega)) (Lm I (l_nil ?_)))))))
      exact k_round (i + 1) (by omega) (by omega) (Sub.cons I (Sub.cons I (Sub.cons I (Sub.cons I (Sub.nil))))) (fun _ h => by simpa only [hkk] using h)
  · try simp only [B4] at h1
    have hki : k < i := by omega
    rw [if_pos hki]
    refine c_false I (c_exit (k_then_exit (k_then_exit (k_block_exit (r_normal (r_none I ?_))))))
    exact fun _ h => ⟨(), rfl, trivial, h⟩
end Go.Proofs.YtloldofjddbjoaaGreat
namespace Go.Proofs.YtloldofjddbjoaaGreat
open Go.Sep Go.RowKit Tryz
def ndE : Nd := ⟨true, [], [], [], []⟩
theorem splice_in {X m Y us : List Value} {k : Nat} (h : k + us.length ≤ m.length) : Sep.splice (X ++ (m ++ Y)) (X.length + k) us = X ++ (Sep.splice m k us ++ Y) := by
  rw [Sep.splice_eq _ _ _ (by simp; omega), Sep.splice_eq _ _ _ h, List.take_length_add_append, List.take_append_of_le_length (by omega), Nat.add_assoc, List.drop_length_add_append, List.drop_append_of_le_length (by omega)]
  simp [List.append_assoc]
section
variable {P : Program} {n : Nat} {L : Env} {X : World → Prop} {o : Oper} {Q : Exit → Act → World → Prop} {K : Act → World → Prop} {w0 : World} {D : List Nat} {H : List Ent}
theorem e_storeVPart {α : Type} {E : Enc α} {l : List α} {t e : TypeId} {x y : Operand} {v : Value} {off sz : Nat} (j k : Nat) (c : α) {a : α} {us : List Value} (ho : o.op = .store t x y) (hd : o.dst = none) (hs : ∀ w, (sizeOf t).run P w = .ok sz w) (hx : ev L x = some (.pointer (some ⟨blk v, off, none⟩))) (hoff : off = offs v + j * E.sz + k) (hy : ev L y = some (.agg us.toArray))
    (ha : l[j]? = some a) (hus : us.length = sz) (hk : k + sz ≤ E.sz) (hv : ∀ v ∈ us, v.oneCell' = true) (hc : Sep.splice (E.f a) k us = E.f c) (h : Pre n L (St w0 D (rowE v e E (l.set j c) :: H)) K) : EOp P n L (St w0 D (rowE v e E l :: H)) o Q K :=
  EOp.skip _ hd (fun ac w kn hX => by
    have hj := (List.getElem?_eq_some_iff.1 ha).1
    obtain ⟨b, cap, pre, post, rfl, hlc, hp, h1⟩ := row_open hX (by omega)
    have hlen := E.flat_len l
    have hmul : (j + 1) * E.sz ≤ l.length * E.sz := Nat.mul_le_mul_right _ (by omega)
    rw [Nat.add_mul, Nat.one_mul] at hmul
    have hfit : off + 0 + us.length ≤ (pre ++ E.flat l ++ post).length := by subst hoff; simp only [offs, List.length_append, hlen]; omega
    obtain ⟨w', hr, h'⟩ := run_storeCs (P := P) (off := off) us _ 0 h1 hfit hv
    have hset : Sep.splice (pre ++ E.flat l ++ post) (off + 0) us = pre ++ E.flat (l.set j c) ++ post := by
      subst hoff
      simp only [offs, Nat.add_zero]
      have e0 : l = l.take j ++ (a :: l.drop (j + 1)) := by
        have := List.getElem?_eq_some_iff.1 ha
        rw [← this.2]; simp
      have e1 : l.set j c = l.take j ++ (c :: l.drop (j + 1)) := by
        rw [List.set_eq_take_append_cons_drop]; simp [hj]
      have hX : (pre ++ E.flat (l.take j)).length = pre.length + j * E.sz := by
        rw [List.length_append, E.flat_len, List.length_take, Nat.min_eq_left (by omega)]
      have f0 : pre ++ E.flat l ++ post = (pre ++ E.flat (l.take j)) ++ (E.f a ++ (E.flat (l.drop (j + 1)) ++ post)) := by
        conv => lhs; rw [e0]
        rw [E.flat_append, E.flat_cons]; simp [List.append_assoc]
      have f1 : pre ++ E.flat (l.set j c) ++ post = (pre ++ E.flat (l.take j)) ++ (E.f c ++ (E.flat (l.drop (j + 1)) ++ post)) := by
        rw [e1, E.flat_append, E.flat_cons]; simp [List.append_assoc]
      rw [f0, f1, ← hX, splice_in (by rw [E.len]; omega), hc]
    rw [hset] at h'
    refine ⟨w', by simp [execOp, ho, kn.eval hx, kn.eval hy, Instr.storeAt, Instr.sureAddr, storeVar, hs, Value.cells, hus, blk]; simp [hr], ?_⟩
    have := row_close (cap := cap) h' (by omega) (by simpa using hlc) (by simpa using hp)
    simpa using this) h
end
theorem unpin_none {M : Mo} {b : Int} (h : M.frI b 2 = none) : M.unpin b = (false, M) := by unfold Mo.unpin Mo.ready; rw [h]
theorem unpin_zero {M : Mo} {b : Int} {i : Nat} (h : M.frI b 2 = some i) (hp : (M.at' i).pins = 0) : M.unpin b = (false, M) := by unfold Mo.unpin Mo.ready; rw [h]; simp only; rw [if_pos hp]
theorem unpin_some {M : Mo} {b : Int} {i : Nat} (h : M.frI b 2 = some i) (hp : ¬ (M.at' i).pins = 0) : M.unpin b = (true, M.put i { M.at' i with pins := (M.at' i).pins - 1 }) := by unfold Mo.unpin Mo.ready; rw [h]; simp only; rw [if_neg hp]
theorem set_none {M : Mo} {b : Int} (nd : Nd) (h : M.frI b 2 = none) : M.setN b nd = (false, M) := by unfold Mo.setN Mo.ready; rw [h]
theorem set_some {M : Mo} {b : Int} {i : Nat} (nd : Nd) (h : M.frI b 2 = some i) : M.setN b nd = (true, M.put i { M.at' i with dirty := true, nd := nd }) := by unfold Mo.setN Mo.ready; rw [h]
theorem fill_none {M : Mo} {b : Int} (nd : Nd) (h : M.frI b 1 = none) : M.fill b nd = (([], false), M) := by unfold Mo.fill; rw [h]
theorem fill_some {M : Mo} {b : Int} {i : Nat} (nd : Nd) (h : M.frI b 1 = some i) : M.fill b nd = ((M.told b, true), { M.put i { M.at' i with st := 2, nd := nd } with loads := M.loads.filter (fun q => !decide (q.2 = b)) }) := by unfold Mo.fill; rw [h]
theorem set_nodeC (f : FC) (nv : NV) : Sep.splice f.c 6 nv.c = ({ f with nv := nv } : FC).c := rfl
theorem Rel.put_same {S : CS} {M : Mo} (h : Rel S M) {i : Nat} {f f' : FC} {y' : Vw} (hf : S.fl[i]? = some f) (hv : vw f' = y') (hb : f'.blk = f.blk) (hs : (f'.st = 1 ∨ f'.st = 2) ↔ (f.st = 1 ∨ f.st = 2)) : Rel { S with fl := S.fl.set i f' } (M.put i y') :=
  h.put hv S.at' (fun b => by rw [putv_same (h.vw_at hf) (by rw [← hv]; exact hb) (by rw [← hv]; exact hs)]; exact h.at' b) h.na
theorem told_filter {M : Mo} (b c : Int) : (((M.loads.filter (fun q => !decide (q.2 = b))).filter (fun q => decide (q.2 = c))).map Prod.fst) = if c = b then [] else M.told c := by
  unfold Mo.told
  rw [List.filter_filter]
  split
  · rename_i e; subst e
    have : (fun q : Int × Int => decide (q.2 = c) && !decide (q.2 = c)) = fun _ => false := by funext q; cases decide (q.2 = c) <;> rfl
    rw [this]; simp
  · rename_i e
    congr 1
    refine List.filter_congr (fun q _ => ?_)
    by_cases h : q.2 = c
    · rw [decide_eq_true h, decide_eq_false (fun e' => e (by rw [← h, e']))]; rfl
    · rw [decide_eq_false h]; rfl
theorem mdel_keys {β : Type} (a : Int) : ∀ l : List (Int × β), ((mdelT a l).map Prod.fst).Sublist (l.map Prod.fst)
  | [] => List.Sublist.refl _
  | (x, y) :: l => by
    simp only [mdelT]
    split
    · exact (List.sublist_cons_self _ _)
    · exact (mdel_keys a l).cons_cons x
theorem mget_del_same {β : Type} {a : Int} : ∀ {l : List (Int × β)}, (l.map Prod.fst).Nodup → mget a (mdelT a l) = none
  | [], _ => rfl
  | (x, y) :: l, hn => by
    obtain ⟨h1, h2⟩ := List.nodup_cons.1 hn
    simp only [mdelT]
    by_cases e : a = x
    · subst e
      rw [if_pos rfl]
      cases hm : mget a l with
      | none => rfl
      | some z => exact absurd (List.mem_map.2 ⟨_, mget_mem hm, rfl⟩) h1
    · rw [if_neg e]; simp only [mget, if_neg e]; exact mget_del_same h2
theorem mget_find {β : Type} {a : Int} {y : β} : ∀ {l : List (Int × β)}, mget a l = some y → ∃ j, l[j]? = some (a, y) ∧ mdelT a l = l.eraseIdx j ∧ ∀ z, mput a z l = l.set j (a, z)
  | [], h => by cases h
  | (x, z) :: l, h => by
    simp only [mget] at h
    split at h
    · rename_i e; cases h; subst e; exact ⟨0, rfl, by simp [mdelT], fun z => by simp [mput]⟩
    · rename_i e
      obtain ⟨j, h1, h2, h3⟩ := mget_find h
      exact ⟨j + 1, by simpa using h1, by simp [mdelT, e, h2], fun z => by simp [mput, e, h3]⟩
theorem mget_no {β : Type} {a : Int} : ∀ {l : List (Int × β)}, mget a l = none → mdelT a l = l ∧ ∀ z, mput a z l = l ++ [(a, z)]
  | [], _ => ⟨rfl, fun _ => rfl⟩
  | (x, y) :: l, h => by
    simp only [mget] at h
    split at h
    · cases h
    · rename_i e
      obtain ⟨h1, h2⟩ := mget_no h
      exact ⟨by simp [mdelT, e, h1], fun z => by simp [mput, e, h2]⟩
abbrev lrow (q : Int × (Sv × List Int)) : Ent := rowE q.2.1.v 3 (encI .i64) q.2.2
theorem Rel.fill {S : CS} {M : Mo} (h : Rel S M) {i : Nat} {f f' : FC} {y' : Vw} (b : Int) (hf : S.fl[i]? = some f) (hv : vw f' = y') (hb : f'.blk = f.blk) (hs : (f'.st = 1 ∨ f'.st = 2) ↔ (f.st = 1 ∨ f.st = 2)) : Rel { S with fl := S.fl.set i f', ld := mdelT b S.ld } { M.put i y' with loads := M.loads.filter (fun q => !decide (q.2 = b)) } := by
  have h1 := h.put_same hf hv hb hs
  refine ⟨h1.fr, h1.ln, h1.hd, h1.at', fun c => ?_, h.nd.sublist (mdel_keys b S.ld), h.na⟩
  show ((M.loads.filter (fun q => !decide (q.2 = b))).filter (fun q => decide (q.2 = c))).map Prod.fst = _
  rw [told_filter]
  by_cases e : c = b
  · subst e; rw [if_pos rfl]; show [] = match mget c (mdelT c S.ld) with | some q => q.2 | none => []
    rw [mget_del_same h.nd]
  · rw [if_neg e]; show _ = match mget c (mdelT b S.ld) with | some q => q.2 | none => []
    rw [mget_delT (fun e' => e e'.symm)]; exact h.ld c
theorem rows_at {S : CS} {j : Nat} {q : Int × (Sv × List Int)} (h : S.ld[j]? = some q) : S.rows[j]? = some (lrow q) := by unfold CS.rows; rw [List.getElem?_map, h]; rfl
theorem rows_erase (S : CS) (j : Nat) : S.rows.eraseIdx j = (S.ld.eraseIdx j).map lrow := (eraseIdx_map' _ _ _).symm
theorem rows_set (S : CS) (j : Nat) (q : Int × (Sv × List Int)) : S.rows.set j (lrow q) = (S.ld.set j q).map lrow := List.map_set.symm
theorem rows_len (S : CS) : S.rows.length = S.ld.length := List.length_map ..
theorem vw_fill {f : FC} (h : f.st = 1) {nv : NV} : vw { f with st := 2, nv := nv } = { vw f with st := 2, nd := nv.d } := by unfold vw; simp [h]
theorem unpin_spec {bc : Nat} {S : CS} {M : Mo} {B : Nat} (hR : Rel S M) (hO : M.Ok B) (b : Int) : Con Tryz.prog 177 [.pointer (some ⟨bc, 0, none⟩), .int .i64 b] (fun _ => True) (S.H bc) (fun S' : CS => .bool (M.unpin b).1) (fun S' => Rel S' (M.unpin b).2 ∧ ∀ G, NIn G S.fl → NIn G S'.fl) (fun S' => S'.H bc) := by
  intro w hE hH
  refine enter (n := 25) (vs := [.pointer (some ⟨bc, 0, none⟩), .int .i64 b]) (St w (dom (S.H bc)) (cellsE bc 257 (S).cells :: rowE (S).vF 259 FC.enc (S).fl :: mapT (S).bA kI kI (S).at' :: mapT (S).bL kI vS (S).ld :: rowE (S).vL 277 Wn.enc (S).ln :: (S).rows)) func177 I I I (St.init hH) ?_
  refine Cs I (Ak I (Cs I (Lm I (Lm I (l_e I (e_call_00 (frame_spec hR hO b 2) I I I call165 I (fun _ h => CR.ofm (S := S) h (fun e he => he)) ?_))))))
  intro _ _
  refine Ak I (c_seq (c_seq ?_))
  refine opt_cases (M.frI b 2) (fun hf => ?_) (fun i hf => ?_)
  · have hu := unpin_none hf
    refine Sv' 5 (.pointer none) I (by rw [hf]; rfl) (Cr I (Lm I (Lq I (q_eqp I U284 I I) (Lm I (Sb 11 true I (I) (Lx I (Lx I (Lx I (Lx I (Lx I (Lq I (q_pick_t I I I) (Nk (c_true I (Cs I (Ak I (c_ret (k_then_ret (r_one I I ?_))))))))))))))))))
    exact fun _ h => ⟨S, by rw [hu], ⟨by rw [hu]; exact hR, fun _ h => h⟩, h⟩
  · obtain ⟨hf1, hst⟩ := frI_at hf
    obtain ⟨y, hy, hyb, hys, hya⟩ := find_at hf1
    obtain ⟨f, hfi, hfy⟩ := hR.get hy
    have hlt := (List.getElem?_eq_some_iff.1 hfi).1
    rw [hya, ← hfy] at hst
    rw [← hfy] at hya hys hyb hy
    refine Sv' 5 (fp S.vF i) I (by rw [hf]; rfl) (Cr I (Lm I (Lq I (q_eqp I U284 I I) (Lm I (Sb 11 false I (I) (Lm I (Lc I (Lfa U259 I Z3 I (Lq I (q_loadV i 3 I G3 I I (Hrd 1 I) hfi I) (Lq I (q_eql I I I) (Lq I (q_pick_f I I I) (Nk ?_))))))))))))
    refine Pre.caseB 17 I (fun hp => ?_) (fun hp => ?_)
    · try simp only [B4] at hp
      have hu := unpin_zero hf (by rw [hya]; exact hp)
      refine c_true I (Cs I (Ak I (c_ret (k_then_ret (r_one I I ?_)))))
      exact fun _ h => ⟨S, by rw [hu], ⟨by rw [hu]; exact hR, fun _ h => h⟩, h⟩
    · try simp only [B4] at hp
      have hu := unpin_some hf (by rw [hya]; exact hp)
      rw [hya] at hu
      have hpb := hO.pins _ (List.mem_of_getElem? hy)
      have hpb1 : 0 ≤ f.pins := hpb.1
      have hpb2 : f.pins ≤ (B : Int) := hpb.2
      have hB9 := hO.B9
      refine c_false I (c_skip (Kt (Cs I (Lm I (Lc I (Lfa U259 I Z3 I (Lq I (q_loadV i 3 I G3 I I (Hrd 1 I) hfi I) (Lq I (q_sub64 I I I (by omega)) (Lc I (Lfa U259 I Z3 I (pull1 (l_e I (e_storeV i 3 (({ f with pins := f.pins - 1 } : FC)) I I Z3 I I I hfi (by decide) I (Nk (Cs I (Ak I (c_ret (pull4 (pull4 (pull4 (pull3 (pull4 (r_one I I ?_)))))))))))))))))))))))
      exact fun _ h => ⟨{ S with fl := S.fl.set i { f with pins := f.pins - 1 } }, by rw [hu], ⟨by rw [hu]; exact hR.put_same hfi I I Iff.rfl, fun _ hG => hG.set_same hfi rfl⟩, h⟩
theorem set_spec {bc : Nat} {S : CS} {M : Mo} {B : Nat} (hR : Rel S M) (hO : M.Ok B) (b : Int) (nv : NV) (hn : nv.d.Sm 65536) : Con Tryz.prog 261 [.pointer (some ⟨bc, 0, none⟩), .int .i64 b, .agg nv.c.toArray] (fun _ => True) (nrows nv ++ S.H bc) (fun r : CS × NV => .bool (M.setN b nv.d).1) (fun r => Rel r.1 (M.setN b nv.d).2 ∧ ∀ G, (∀ e ∈ nrows r.2, e ∈ G) → NIn G S.fl → NIn G r.1.fl) (fun r => nrows r.2 ++ nrows nv ++ r.1.H bc) := by
  intro w hE hH
  refine enter (n := 21) (vs := [.pointer (some ⟨bc, 0, none⟩), .int .i64 b, .agg nv.c.toArray]) (St w (dom (rowEn nv.s.e nv.d.es :: rowKi nv.s.k nv.d.kids :: rowPi nv.s.p nv.d.piv :: rowMs nv.s.m nv.d.msgs :: S.H bc)) (rowEn nv.s.e nv.d.es :: rowKi nv.s.k nv.d.kids :: rowPi nv.s.p nv.d.piv :: rowMs nv.s.m nv.d.msgs :: cellsE bc 257 (S).cells :: rowE (S).vF 259 FC.enc (S).fl :: mapT (S).bA kI kI (S).at' :: mapT (S).bL kI vS (S).ld :: rowE (S).vL 277 Wn.enc (S).ln :: (S).rows)) func261 I I I (St.init hH) ?_
  refine Cs I (l_e I (e_box I I I I ?_))
  intro bn
  refine cells_eq (show _ = nv.c from I) (Ak I (Cs I (Lm I (Lm I (l_e I (e_call_00 (frame_spec hR hO b 2) I I I call165 I (fun _ h => CR.ofm (S := S) h (fun e he => List.mem_cons_of_mem _ (List.mem_cons_of_mem _ (List.mem_cons_of_mem _ (List.mem_cons_of_mem _ (List.mem_cons_of_mem _ (he))))))) ?_))))))
  intro _ _
  refine Ak I (c_seq (c_seq ?_))
  refine opt_cases (M.frI b 2) (fun hf => ?_) (fun i hf => ?_)
  · have hu := set_none nv.d hf
    refine Sv' 7 (.pointer none) I (by rw [hf]; rfl) (Cr I (Lm I (Lq I (q_eqp I U284 I I) (Nk (Sb 12 true I (I) (c_true I (Cs I (Ak I (c_ret (k_then_ret (drop0 (row0 154 Ms.enc none (row0 77 (Kv.enc 8) none (row0 3 (encI .i64) none (row0 79 En.enc none (r_one I I ?_))))))))))))))))
    exact fun _ h => ⟨(S, ⟨n40, ndE⟩), by rw [hu], ⟨by rw [hu]; exact hR, fun _ _ h => h⟩, h⟩
  · obtain ⟨hf1, hst⟩ := frI_at hf
    obtain ⟨y, hy, hyb, hys, hya⟩ := find_at hf1
    obtain ⟨f, hfi, hfy⟩ := hR.get hy
    have hlt := (List.getElem?_eq_some_iff.1 hfi).1
    rw [hya, ← hfy] at hst
    rw [← hfy] at hya hys hyb hy
    refine Sv' 7 (fp S.vF i) I (by rw [hf]; rfl) (Cr I (Lm I (Lq I (q_eqp I U284 I I) (Nk (Sb 12 false I (I) (c_false I (c_skip (Kt (Cs I (Lm I (Lm I (Lq I (q_loadCAgg (nv.c) I G135 Z135 I (Hat 0 I) (I) (I)) ?_))))))))))))
    have hu := set_some nv.d hf
    rw [hya] at hu
    refine l_e I (e_call_04 (own_spec nv hn) I I I call155 I (fun _ h => ⟨h.rd 1 rfl, h.rd 2 rfl, h.rd 3 rfl, h.rd 4 rfl⟩) ?_)
    intro s _
    refine Lc I (Lfa U259 I Z135 I (pull10 (l_e I (e_storeVPart i 6 ({ f with nv := (⟨s, nv.d⟩ : NV) } : FC) I I Z135 I I I hfi I (by decide) (NV.one _) (set_nodeC _ _) (Lc I (Lfa U259 I Z4 I ?_))))))
    have hf2 : (S.fl.set i ({ f with nv := (⟨s, nv.d⟩ : NV) } : FC))[i]? = some ({ f with nv := (⟨s, nv.d⟩ : NV) } : FC) := List.getElem?_set_self hlt
    refine l_e I (e_storeV i 5 (({ f with nv := (⟨s, nv.d⟩ : NV), dirty := true } : FC)) I I Z4 I I I hf2 (by decide) I (Nk (Cs I (Ak I (c_ret (row_eq (List.set_set ..) (pull5 (drop0 (pull12 (pull12 (pull12 (pull3 (pull12 (pull12 (pull12 (pull12 (pull12 (pull12 (pull12 (pull12 (pull12 (r_one I I ?_))))))))))))))))))))))
    exact fun _ h => ⟨({ S with fl := S.fl.set i ({ f with nv := (⟨s, nv.d⟩ : NV), dirty := true } : FC) }, (⟨s, nv.d⟩ : NV)), by rw [hu], ⟨by rw [hu]; exact hR.put_same hfi I I Iff.rfl, fun G hG1 hG => hG.set (.of hG1)⟩, h⟩
theorem fill_spec {bc : Nat} {S : CS} {M : Mo} {B : Nat} (hR : Rel S M) (hO : M.Ok B) (b : Int) (nv : NV) (hn : nv.d.Sm 65536) : Con Tryz.prog 133 [.pointer (some ⟨bc, 0, none⟩), .int .i64 b, .agg nv.c.toArray] (fun _ => True) (nrows nv ++ S.H bc) (fun r : CS × NV × Value => .tuple #[r.2.2, .bool (M.fill b nv.d).1.2]) (fun r => Rel r.1 (M.fill b nv.d).2 ∧ ∀ G, (∀ e ∈ nrows r.2.1, e ∈ G) → NIn G S.fl → NIn G r.1.fl) (fun r => rowE r.2.2 3 (encI .i64) (M.fill b nv.d).1.1 :: (nrows r.2.1 ++ nrows nv ++ r.1.H bc)) := by
  intro w hE hH
  refine enter (n := 35) (vs := [.pointer (some ⟨bc, 0, none⟩), .int .i64 b, .agg nv.c.toArray]) (St w (dom (rowEn nv.s.e nv.d.es :: rowKi nv.s.k nv.d.kids :: rowPi nv.s.p nv.d.piv :: rowMs nv.s.m nv.d.msgs :: S.H bc)) (rowEn nv.s.e nv.d.es :: rowKi nv.s.k nv.d.kids :: rowPi nv.s.p nv.d.piv :: rowMs nv.s.m nv.d.msgs :: cellsE bc 257 (S).cells :: rowE (S).vF 259 FC.enc (S).fl :: mapT (S).bA kI kI (S).at' :: mapT (S).bL kI vS (S).ld :: rowE (S).vL 277 Wn.enc (S).ln :: (S).rows)) func133 I I I (St.init hH) ?_
  refine Cs I (l_e I (e_box I I I I ?_))
  intro bn
  refine cells_eq (show _ = nv.c from I) (Las I (Ak I (Cs I (Lm I (Lm I (l_e I (e_call_00 (frame_spec hR hO b 1) I I I call165 I (fun _ h => CR.ofm (S := S) h (fun e he => List.mem_cons_of_mem _ (List.mem_cons_of_mem _ (List.mem_cons_of_mem _ (List.mem_cons_of_mem _ (List.mem_cons_of_mem _ (he))))))) ?_)))))))
  intro _ _
  refine Ak I (c_seq (c_seq ?_))
  refine opt_cases (M.frI b 1) (fun hf => ?_) (fun i hf => ?_)
  · have hu := fill_none nv.d hf
    refine Sv' 8 (.pointer none) I (by rw [hf]; rfl) (Cr I (Lm I (Lq I (q_eqp I U284 I I) (Nk (Sb 14 true I (I) (c_true I (Cs I (Las I (Ak I (c_ret (k_then_ret (drop0 (row0 154 Ms.enc none (row0 77 (Kv.enc 8) none (row0 3 (encI .i64) none (row0 79 En.enc none (row0 3 (encI .i64) none (r_many (rs := [.tmp 6, .tmp 7]) I I ?_))))))))))))))))))
    exact fun _ h => ⟨(S, ⟨n40, ndE⟩, nil0), by rw [hu], ⟨by rw [hu]; exact hR, fun _ _ h => h⟩, by rw [hu]; exact h⟩
  · obtain ⟨hf1, hst⟩ := frI_at hf
    obtain ⟨y, hy, hyb, hys, hya⟩ := find_at hf1
    obtain ⟨f, hfi, hfy⟩ := hR.get hy
    have hlt := (List.getElem?_eq_some_iff.1 hfi).1
    rw [hya, ← hfy] at hst
    rw [← hfy] at hya hys hyb hy
    refine Sv' 8 (fp S.vF i) I (by rw [hf]; rfl) (Cr I (Lm I (Lq I (q_eqp I U284 I I) (Nk (Sb 14 false I (I) (c_false I (c_skip (Kt (Cs I (Lm I (Lm I (Lq I (q_loadCAgg (nv.c) I G135 Z135 I (Hat 0 I) (I) (I)) ?_))))))))))))
    have hu := fill_some nv.d hf
    rw [hya] at hu
    refine l_e I (e_call_04 (own_spec nv hn) I I I call155 I (fun _ h => ⟨h.rd 1 rfl, h.rd 2 rfl, h.rd 3 rfl, h.rd 4 rfl⟩) ?_)
    intro s _
    refine Lc I (Lfa U259 I Z3 I (pull10 (l_e I (e_storeV i 0 (({ f with st := 2 } : FC)) I I Z3 I I I hfi (by decide) I (Lc I (Lfa U259 I Z135 I ?_))))))
    have hf2 : (S.fl.set i ({ f with st := 2 } : FC))[i]? = some ({ f with st := 2 } : FC) := List.getElem?_set_self hlt
    refine l_e I (e_storeVPart i 6 ({ f with st := 2, nv := (⟨s, nv.d⟩ : NV) } : FC) I I Z135 I I I hf2 I (by decide) (NV.one _) (set_nodeC _ _) (Nk (Cs I (Lm I (Lc I (Lfa U257 I Z254 I (Lo isAgg254 10 I (Lm I (Lq I (q_lookupT (kf := kI) (vf := vS) b I U254 keyI zeroValue22 I I (Hat 12 I)) (Ak I (c_seq (row_eq (List.set_set ..) ?_))))))))))))
    refine opt_cases (mget b S.ld) (fun hm => ?_) (fun q hm => ?_)
    · obtain ⟨hde, _⟩ := mget_no hm
      have ht : M.told b = [] := by have := hR.ld b; rw [hm] at this; exact this
      refine Sv' 9 (nil0) I (by rw [hm]) (Cr I (Lm I (Lc I (Lfa U257 I Z254 I (Lo isAgg254 10 I (Lm I (pull12 (l_e I (e_deleteT b I I U254 keyI I I (Nk (Cs I (Lm I (Las I (Ak I (c_ret (pull6 (drop0 (pull12 (pull1 (pull12 (pull3 (pull12 (pull12 ?_)))))))))))))))))))))))
      refine pull12 (pull12 (pull12 (pull12 (pull12 (pull12 (pull12 ?_))))))
      have e1 : (M.fill b nv.d).1.1 = [] := by rw [hu]; exact ht
      have e2 : ({ S with fl := S.fl.set i ({ f with st := 2, nv := (⟨s, nv.d⟩ : NV) } : FC), ld := mdelT b S.ld } : CS).rows = S.rows := by unfold CS.rows; show List.map _ (mdelT b S.ld) = _; rw [hde]
      refine row0 3 (encI .i64) none (r_many (rs := [.tmp 6, .tmp 7]) I I ?_)
      exact fun _ h => ⟨(({ S with fl := S.fl.set i ({ f with st := 2, nv := (⟨s, nv.d⟩ : NV) } : FC), ld := mdelT b S.ld } : CS), (⟨s, nv.d⟩ : NV), nil0), by rw [hu], ⟨by rw [hu]; exact hR.fill b hfi (vw_fill hst) I ⟨fun _ => .inl hst, fun _ => .inr rfl⟩, fun G hG1 hG => hG.set (.of hG1)⟩, by
          rw [e1]
          have h2 := h
          rw [← e2] at h2; exact h2⟩
    · obtain ⟨j, hj, hde, _⟩ := mget_find hm
      have ht : M.told b = q.2 := by have := hR.ld b; rw [hm] at this; exact this
      have hrj := rows_at hj
      refine Sv' 9 (q.1.v) I (by rw [hm]) (Cr I (Lm I (Lc I (Lfa U257 I Z254 I (Lo isAgg254 10 I (Lm I (pull12 (l_e I (e_deleteT b I I U254 keyI I I (Nk (Cs I (Lm I (Las I (Ak I (c_ret (pull6 (drop0 (pull12 (pull1 (pull12 (pull3 (pull12 (pull12 ?_)))))))))))))))))))))))
      refine pull12 (pull12 (pull12 (pull12 (pull12 (pull12 (pull12 ?_))))))
      have e1 : (M.fill b nv.d).1.1 = q.2 := by rw [hu]; exact ht
      have e2 : ({ S with fl := S.fl.set i ({ f with st := 2, nv := (⟨s, nv.d⟩ : NV) } : FC), ld := mdelT b S.ld } : CS).rows = S.rows.eraseIdx j := by rw [rows_erase, ← hde]; rfl
      refine r_many (rs := [.tmp 6, .tmp 7]) I I ?_
      exact fun _ h => ⟨(({ S with fl := S.fl.set i ({ f with st := 2, nv := (⟨s, nv.d⟩ : NV) } : FC), ld := mdelT b S.ld } : CS), (⟨s, nv.d⟩ : NV), q.1.v), by rw [hu], ⟨by rw [hu]; exact hR.fill b hfi (vw_fill hst) I ⟨fun _ => .inl hst, fun _ => .inr rfl⟩, fun G hG1 hG => hG.set (.of hG1)⟩, by
          rw [e1]
          have h2 := St.pullT (pre := [_, _, _, _, _, _, _, _, _, _, _, _, _]) (T := S.rows) hrj h
          rw [← e2] at h2; exact h2⟩
end Go.Proofs.YtloldofjddbjoaaGreat
namespace Go.Proofs.YtloldofjddbjoaaGreat
open Go.Sep Go.RowKit Tryz
section
variable {P : Program} {n : Nat} {L : Env} {o : Oper} {Q : Exit → Act → World → Prop} {K : Act → World → Prop} {w0 : World} {D : List Nat}
theorem e_callH {β : Type} {v : β → Value} {p : β → Prop} {E : World → Prop} {HA : List Ent} {HB : β → List Ent} {f : FuncId} {xs : List Operand} {ts : Array TypeId} {d : Nat} {vs : List Value} (pre : List Ent) (s : Con P f vs E HA v p HB) (ho : o.op = .call ⟨.value (.func f), xs.toArray, ts⟩) (hd : o.dst = some d) (hn : d.blt n = true)
    (hc : ∀ us w, (callFunc f us).run P w = .ok (.enter f us) w) (hv : evs L xs = some vs) (hE : ∀ w, St w0 D (pre ++ HA) w → E w) (h : ∀ b, p b → Pre n ((d, v b) :: L) (St w0 D (pre ++ HB b)) K) : EOp P n L (St w0 D (pre ++ HA)) o Q K :=
  e_call ho hd hn hc hv (fun w x => (s.frame (F := pre) (x.perm List.perm_append_comm) (hE w x)).mono (fun e w' ⟨b, he, hp, h'⟩ => ⟨b, he, hp, h'.perm List.perm_append_comm⟩)) h
end
theorem put_ok_same {M : Mo} {B : Nat} (h : M.Ok B) {i : Nat} {y y' : Vw} (hy : M.fr[i]? = some y) (hs : y'.st = y.st) (hb : y'.blk = y.blk) (ho : y'.own = y.own) (hp : 0 ≤ y'.pins ∧ y'.pins ≤ (B : Int)) (he : y'.nd.Sm 1000) : (M.put i y').Ok B := by
  have hm := List.mem_of_getElem? hy
  refine put_ok h hy (by rw [hs]; exact h.st y hm) (by rw [hs, hb]; exact h.none' y hm) (by rw [hs, hb]; exact h.blk y hm) (by rw [hs, ho]; exact h.own y hm) (by rw [hs, ho]; exact h.own0 y hm) hp (fun h1 j z hj hz h2 e => ?_) (fun q _ h1 h2 => ⟨by rw [hs]; exact h1, by rw [hb]; exact h2⟩) he
  rw [hs] at h1
  exact hj (h.uni j i z y hz hy h2 h1 (by rw [e, hb]))
theorem Rel.new {S : CS} {M : Mo} (h : Rel S M) {k : Nat} {y y' : Vw} {f' : FC} {b : Int} (hy : M.fr[k]? = some y) (hf : ¬ (y.st = 1 ∨ y.st = 2)) (hn : M.find b = none) (hv : vw f' = y') (hb : f'.blk = b) (hs : f'.st = 1 ∨ f'.st = 2) : Rel { S with fl := S.fl.set k f', at' := mput b (k : Int) S.at' } (M.put k y') :=
  h.put hv _ (fun c => by
    rw [put_new hy hf hn (by rw [← hv]; exact hb) (by rw [← hv]; exact hs)]
    by_cases e : c = b
    · subst e; rw [if_pos rfl, mget_put]; rfl
    · rw [if_neg e, mget_putT (fun e' => e e'.symm)]; exact h.at' c) (mput_keys b _ h.na)
theorem pin_no {M : Mo} {t b : Int} (h : (bkB b && M.mayW t b) = false) : M.pin t b = (0, M) := by unfold Mo.pin; rw [if_pos h]
theorem pin_at {M : Mo} {t b : Int} {i : Nat} {y : Vw} (h : (bkB b && M.mayW t b) = true) (hf : M.find b = some i) (hy : M.at' i = y) : M.pin t b = if y.st = 2 then (1, (M.put i { y with pins := y.pins + 1, ref := true }).leave t) else (2, { (M.put i { y with pins := y.pins + 1, ref := true }).leave t with loads := M.loads ++ [(t, b)] }) := by
  subst hy
  unfold Mo.pin; rw [if_neg (by rw [h]; decide), hf]; rfl
theorem pin_queue {M : Mo} {t b : Int} (h : (bkB b && M.mayW t b) = true) (hf : M.find b = none) (hk : M.takes t = none) : M.pin t b = (4, M.ask t b) := by unfold Mo.pin; rw [if_neg (by rw [h]; decide), hf]; simp only; rw [hk]
theorem pin_read {M : Mo} {t b : Int} {k : Nat} (h : (bkB b && M.mayW t b) = true) (hf : M.find b = none) (hk : M.takes t = some k) : M.pin t b = (3, (M.leave t).put k ⟨1, b, 0, 1, true, false, nd0⟩) := by unfold Mo.pin; rw [if_neg (by rw [h]; decide), hf]; simp only; rw [hk]
theorem claim_no {M : Mo} {t : Int} (h : M.mayW t (-1) = false) : M.claim t = (false, M) := by unfold Mo.claim; rw [if_pos h]
theorem claim_queue {M : Mo} {t : Int} (h : M.mayW t (-1) = true) (hk : M.takes t = none) : M.claim t = (false, M.ask t (-1)) := by unfold Mo.claim; rw [if_neg (by rw [h]; decide), hk]
theorem claim_some {M : Mo} {t : Int} {k : Nat} (h : M.mayW t (-1) = true) (hk : M.takes t = some k) : M.claim t = (true, (M.leave t).put k ⟨3, -1, t, 1, false, false, nd0⟩) := by unfold Mo.claim; rw [if_neg (by rw [h]; decide), hk]
theorem told_add {M : Mo} {t b : Int} (c : Int) : ((M.loads ++ [(t, b)]).filter (fun q => decide (q.2 = c))).map Prod.fst = if c = b then M.told c ++ [t] else M.told c := by
  rw [List.filter_append, List.map_append]
  unfold Mo.told
  by_cases e : c = b
  · subst e; rw [if_pos rfl]; simp
  · rw [if_neg e]; simp [List.filter_cons, Ne.symm e]
theorem Rel.wait {S : CS} {M : Mo} (h : Rel S M) (t b : Int) (sv : Sv) (l : List Int) (hl : l = M.told b ++ [t]) : Rel { S with ld := mput b (sv, l) S.ld } { M with loads := M.loads ++ [(t, b)] } := by
  refine ⟨h.fr, h.ln, h.hd, h.at', fun c => ?_, mput_keys b _ h.nd, h.na⟩
  · show ((M.loads ++ [(t, b)]).filter (fun q => decide (q.2 = c))).map Prod.fst = match mget c (mput b (sv, l) S.ld) with | some q => q.2 | none => []
    rw [told_add]
    by_cases e : c = b
    · subst e; rw [if_pos rfl, mget_put]; exact hl.symm
    · rw [if_neg e, mget_putT (fun e' => e e'.symm)]; exact h.ld c
theorem wn_block {b : Int} (h : bkB b = true) (t : Int) : wn (t, b) = ⟨t, b, false⟩ := by
  unfold bkB at h
  simp only [Bool.and_eq_true, decide_eq_true_eq] at h
  unfold wn
  simp only [Wn.mk.injEq, true_and]
  exact decide_eq_false (by omega)
end Go.Proofs.YtloldofjddbjoaaGreat
