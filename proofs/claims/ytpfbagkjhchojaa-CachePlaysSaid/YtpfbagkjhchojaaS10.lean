/- Results in memory, copy, text, structs held against each other; a number and its bytes (keys, values). Over any program. -/
import Derived.Test.YtpfbagkjhchojaaS9
import Derived.Test.YtpfbagkjhchojaaFlat
set_option linter.unusedVariables false
set_option linter.unusedSimpArgs false
namespace Go.Sep
open Go.RowKit Go.Proofs.Ytpfbagkjhchojaa
section
variable {P : Program} {n : Nat} {L : Env} {X : World → Prop} {fn : Func} {R : Ending → World → Prop}
/-- A result's value. -/
def ResOK (P : Program) (L : Env) (X : World → Prop) : ResultVar → Value → Prop
  | .tmp t, v => look L t = some v
  | .cell x t, v => ∃ p, look L x = some (.pointer (some p)) ∧ ∀ w, X w → (loadVar t p).run P w = .ok v w
theorem resOne_run {a : Act} {w : World} (k : Know n L a) (x : X w) : ∀ {r : ResultVar} {v : Value}, ResOK P L X r v → (resOne a.tmps r).run P w = .ok v w
  | .tmp t, v, h => by
    have := k.get t v h
    simp [resOne, Array.getD_eq_getD_getElem?, this]
  | .cell y t, v, ⟨p, hp, hl⟩ => by
    have := k.get y _ hp
    simp [resOne, Array.getD_eq_getD_getElem?, this, asAddr, hl w x]
theorem results_eq (fn : Func) (tmps : Array Value) : results fn tmps = (do let vs ← fn.results.mapM (resOne tmps); pure (if h : vs.size = 1 then vs[0] else .tuple vs)) := rfl
theorem r_res1 {r : ResultVar} {v : Value} (hr : fn.results = #[r]) (h : ResOK P L X r v) (hR : ∀ w, X w → R (.returned v) w) : Pre n L X (bodyPost P fn R .ret) := fun a w k x =>
  ⟨k.defers, v, by rw [results_eq, hr]; simp [resOne_run k x h], hR w x⟩
theorem r_res2 {r r' : ResultVar} {u v : Value} (hr : fn.results = #[r, r']) (h1 : ResOK P L X r u) (h2 : ResOK P L X r' v) (hR : ∀ w, X w → R (.returned (.tuple #[u, v])) w) : Pre n L X (bodyPost P fn R .ret) := fun a w k x =>
  ⟨k.defers, _, by rw [results_eq, hr]; simp [resOne_run k x h1, resOne_run k x h2], hR w x⟩
theorem res_cellA {x b sz : Nat} {t T : TypeId} {cs : List Value} (hx : look L x = some (.pointer (some ⟨b, 0, none⟩))) (hg : ∀ w, (isAgg t).run P w = .ok true w) (hz : ∀ w, (sizeOf t).run P w = .ok sz w) (hr : ∀ w, X w → (cellsE b T cs).at w) (hl : cs.length = sz) : ResOK P L X (.cell x t) (.agg cs.toArray) :=
  ⟨_, hx, fun w hX => by
    have := run_loadCells (P := P) b 0 w sz 0 cs #[] hl (fun j v hj => by rw [Nat.zero_add, Nat.zero_add]; exact cellsE_cell (hr w hX) hj)
    simp [loadVar, hg, hz, loadCells, this]⟩
end

section
variable {P : Program} {n : Nat} {L : Env} {X : World → Prop} {o : Oper} {Q : Exit → Act → World → Prop} {K : Act → World → Prop}
variable {w0 : World} {D : List Nat} {H : List Ent} {α : Type} {E : Enc α} {l : List α} {v : Value}
/-! ## copy -/
theorem run_firstN {w : World} {m : Nat} (h : RdV w v E l) (hm : m ≤ l.length) : (Builtin.firstCells E.sz m v).run P w = .ok (E.flat (l.take m)).toArray w := by
  obtain ⟨a, c, rfl, hc, h⟩ := h
  have h' : RdV w (.slice a (l.take m).length c) E (l.take m) := ⟨a, c, rfl, by rw [List.length_take]; omega, by
    rcases h with rfl | ⟨b, off, rfl, h⟩
    · exact .inl (by simp)
    · refine .inr ⟨b, off, rfl, fun k u hk => h k u ?_⟩
      rw [← E.flat_take, List.getElem?_take] at hk
      split at hk
      · exact hk
      · cases hk⟩
  have := run_first (P := P) h'
  rw [List.length_take, Nat.min_eq_left hm] at this
  cases a <;> exact this
theorem run_copy {t tx e ty : TypeId} {x : Value} {b off dn dc : Nat} {T : TypeId} {cs : List Value} {w : World} (ht : P.underlying t = some (.slice e)) (hz : ∀ w, (sizeOf e).run P w = .ok E.sz w) (h : St w0 D (cellsE b T cs :: H) w) (hx : RdV w x E l) (hfit : off + min l.length dn * E.sz ≤ cs.length) :
    ∃ w', (Builtin.copy_ #[t, tx] ty #[.slice (some ⟨b, off, none⟩) dn dc, x]).run P w = .ok (.int .i64 (min l.length dn : Nat)) w' ∧ St w0 D (cellsE b T (splice cs off (E.flat (l.take (min l.length dn)))) :: H) w' := by
  have hf := run_firstN (P := P) hx (Nat.min_le_left l.length dn)
  have hl := run_lenOf (P := P) hx
  have hlen : (E.flat (l.take (min l.length dn))).length = min l.length dn * E.sz := by rw [E.flat_len, List.length_take, Nat.min_eq_left (Nat.min_le_left ..)]
  obtain ⟨w', hr, h'⟩ := run_storeCs (P := P) (off := off) (E.flat (l.take (min l.length dn))) _ 0 h (by omega) (fun u hu => E.flat_one _ u hu)
  refine ⟨w', ?_, by simpa using h'⟩
  have hmin : Nat.min l.length dn = min l.length dn := rfl
  simp [Builtin.copy_, run_und ht, hl, hz, hmin, hf, hr, goInt]
theorem e_copy {t tx e : TypeId} {x y : Operand} {xv : Value} {b off dn dc : Nat} {T : TypeId} {cs : List Value} {d : Nat} (ho : o.op = .call ⟨.builtin .copy, #[y, x], #[t, tx]⟩) (hd : o.dst = some d) (hnn : d.blt n = true) (ht : P.underlying t = some (.slice e)) (hz : ∀ w, (sizeOf e).run P w = .ok E.sz w)
    (hy : ev L y = some (.slice (some ⟨b, off, none⟩) dn dc)) (hxv : ev L x = some xv) (hx : ∀ w, St w0 D (cellsE b T cs :: H) w → RdV w xv E l) (hfit : off + min l.length dn * E.sz ≤ cs.length)
    (h : Pre n ((d, .int .i64 (min l.length dn : Nat)) :: L) (St w0 D (cellsE b T (splice cs off (E.flat (l.take (min l.length dn)))) :: H)) K) : EOp P n L (St w0 D (cellsE b T cs :: H)) o Q K :=
  EOp.val (β := Unit) (fun _ => .int .i64 (min l.length dn : Nat)) (fun _ => True) (fun _ => St w0 D (cellsE b T (splice cs off (E.flat (l.take (min l.length dn)))) :: H)) hd hnn (fun a w kn hX => by
    obtain ⟨w', hr, h'⟩ := run_copy (P := P) (ty := o.type) (tx := tx) (dc := dc) ht hz hX (hx w hX) hfit
    exact ⟨(), w', by simp [execOp, ho, resolve, invoke, builtin, kn.eval hy, kn.eval hxv, hr], trivial, h'⟩) (fun _ _ => h)
/-- A part of a block known whole, read as a slice. -/
theorem rd_part {w : World} {b off k c : Nat} {T : TypeId} {cs : List Value} (h : (cellsE b T cs).at w) (E : Enc α) (l : List α) (hk : l.length = k) (hc : k ≤ c) (hf : (cs.drop off).take (k * E.sz) = E.flat l) : RdV w (.slice (some ⟨b, off, none⟩) k c) E l := by
  subst hk
  refine ⟨_, c, rfl, hc, .inr ⟨b, off, rfl, fun j u hj => cellsE_cell h ?_⟩⟩
  rw [← hf, List.getElem?_take] at hj
  split at hj
  · rwa [List.getElem?_drop] at hj
  · cases hj

/-! ## Text -/
theorem q_indexS {t : TypeId} {x i : Operand} {s : ByteArray} {k : IntKind} {p : Int} (j : Nat) (b : UInt8) (ho : o.op = .index t x i) (ht : P.underlying t = some .string) (hx : ev L x = some (.string s)) (hi : ev L i = some (.int k p)) (hp : p = (j : Int)) (hb : s[j]? = some b) : QOp P n L X o (.int .u8 (b.toNat : Int)) :=
  QOp.mk (fun a => Instr.index t (a.eval x) (a.eval i)) (fun a => by simp [execOp, ho]) (fun a w hk _ => by
    subst hp
    rw [hk.eval hx, hk.eval hi]
    simp [Instr.index, asIntOf, run_und ht, hb])
theorem q_sliceSH {t : TypeId} {x hi : Operand} {s : ByteArray} {k : IntKind} {zh : Int} (h : Nat) (ho : o.op = .slice t x none (some hi) none) (ht : P.underlying t = some .string) (hx : ev L x = some (.string s)) (hhi : ev L hi = some (.int k zh)) (eh : zh = (h : Int)) (h2 : h ≤ s.size) : QOp P n L X o (.string (s.extract 0 h)) :=
  QOp.mk (fun a => Instr.sliceAt t (a.eval x) none (some (a.eval hi)) none) (fun a => by simp [execOp, ho]) (fun a w hk _ => by
    subst eh
    rw [hk.eval hx, hk.eval hhi]
    have hb : (Instr.sliceBound (.int k (h : Int)) s.size .sliceAlen).run P w = .ok h w := run_bound w rfl h2
    simp only [Instr.sliceAt, Instr.slice, Instr.sliceBounds, Sem.run_bind, run_und ht, Result.andThen_ok, Sem.run_pure]
    simp [hb])
theorem q_b2s {l : List Int} {r t e : TypeId} {x : Operand} (ho : o.op = .convert r t x) (hs : P.underlying r = some (.slice e)) (he : P.underlying e = some (.int .u8)) (ht : P.underlying t = some .string) (hx : ev L x = some v) (hr : ∀ w, X w → RdV w v (encI .u8) l) : QOp P n L X o (.string (strOfNums l)) := fun a w hk hX => by
  obtain ⟨ad, c, rfl, hc, h⟩ := hr w hX
  have hrun : (convert r t (.slice ad l.length c)).run P w = .ok (.string (strOfNums l)) w := by
    rcases h with rfl | ⟨b, off, rfl, h⟩
    · cases ad with
      | none => exact run_convert_bytes_nil w r e hs he 0 c t ht
      | some p => simp [convert, run_und hs, run_und ht, run_und he, Conv.bytesToString, loadCells, loadCellsFrom, strOfNums]; rfl
    · exact run_convert_bytes_arg w r e hs he b off l.length c l rfl (fun i hi => by
        refine h i _ ?_
        have := (encI .u8).flat_get l i 0 (l.getD i 0) (.int .u8 (l.getD i 0)) (by simp [List.getD_eq_getElem?_getD, hi]) rfl
        have e1 : (encI .u8).sz = 1 := rfl
        rw [e1, Nat.mul_one, Nat.add_zero] at this
        exact this) t ht
  have := QOp.mk (P := P) (n := n) (L := L) (X := fun w' => w' = w) (o := o) (v := .string (strOfNums l)) (fun a => convert r t (a.eval x)) (fun a => by simp [execOp, ho]) (fun a w' hk hw => by subst hw; rw [hk.eval hx]; exact hrun)
  exact this a w hk rfl

/-! ## Structs held against each other -/
theorem run_eqAgg {w : World} {d : Nat} {t : TypeId} {ks : List Sc} {xs ys : List Value} {b : Bool} (hf : flat P d t = some ks) (hk : P.keyTypeAt d t = true) (hd : d.ble 10000 = true) (hc : P.cellsOf t = ks.length)
    (ha : (match P.underlying t with | some (.struct _) | some (.array _ _) => true | _ => false) = true) (hx : Kinds ks xs) (hy : Kinds ks ys) (hb : xs = ys ↔ b = true) : (Op.equal t (.agg xs.toArray) (.agg ys.toArray)).run P w = .ok b w := by
  obtain ⟨r, h1, h2⟩ := run_equal_flat (P := P) (w := w) (n := d) (t := t) (ks := ks) (xs := xs.toArray) (ys := ys.toArray) hf hk (Nat.le_of_ble_eq_true hd) hc ha hx hy
  have hr : r = b := by
    rw [Bool.eq_iff_iff, h2, ← hb]
    exact ⟨fun h => by simpa using h, fun h => by rw [h]⟩
  rw [← hr]; exact h1
theorem q_eqAgg {t u : TypeId} {x y : Operand} {d : Nat} {ks : List Sc} {xs ys : List Value} (b : Bool) (hf : flat P d t = some ks) (hk : P.keyTypeAt d t = true) (hd : d.ble 10000 = true) (hc : P.cellsOf t = ks.length)
    (ha : (match P.underlying t with | some (.struct _) | some (.array _ _) => true | _ => false) = true) (hm : P.eqGuardType P.depth t = false) (ho : o.op = .binOp .eql t x y u) (hx : ev L x = some (.agg xs.toArray)) (hy : ev L y = some (.agg ys.toArray)) (kx : Kinds ks xs) (ky : Kinds ks ys) (hb : xs = ys ↔ b = true) : QOp P n L X o (.bool b) :=
  q_bin ho hx hy (fun w _ => run_both (run_eqGuard_agg (w := w) .eql t x y _ _ hm) (bin_eq w rfl (run_eqAgg hf hk hd hc ha kx ky hb)))
theorem q_neAgg {t u : TypeId} {x y : Operand} {d : Nat} {ks : List Sc} {xs ys : List Value} (b : Bool) (hf : flat P d t = some ks) (hk : P.keyTypeAt d t = true) (hd : d.ble 10000 = true) (hc : P.cellsOf t = ks.length)
    (ha : (match P.underlying t with | some (.struct _) | some (.array _ _) => true | _ => false) = true) (hm : P.eqGuardType P.depth t = false) (ho : o.op = .binOp .neq t x y u) (hx : ev L x = some (.agg xs.toArray)) (hy : ev L y = some (.agg ys.toArray)) (kx : Kinds ks xs) (ky : Kinds ks ys) (hb : xs = ys ↔ b = true) : QOp P n L X o (.bool (!b)) :=
  q_bin ho hx hy (fun w _ => run_both (run_eqGuard_agg (w := w) .neq t x y _ _ hm) (bin_ne w rfl (run_eqAgg hf hk hd hc ha kx ky hb)))
end

/-- From the elder way's words. -/
theorem con_of {P : Program} {f : FuncId} {vs : List Value} {v : Value} {E : World → Prop} (h : ∀ w, E w → Calls P f vs.toArray w (fun e w' => e = .returned v ∧ Go.RowKit.Below w.heap.size w w')) : Con P f vs E [] (fun _ : Unit => v) (fun _ => True) (fun _ => []) := fun w hE hH =>
  (h w hE).mono (fun e w' ⟨he, hb⟩ => ⟨(), he, trivial, ⟨HP.nil w', fun b hb' => (by cases hb'), ⟨hb.os, hb.tape, hb.output, hb.size, fun b hb' _ => hb.block b hb'⟩⟩⟩)
theorem splice_all {cs vs : List Value} (h : vs.length = cs.length) : splice cs 0 vs = vs := by
  rw [splice_eq _ _ _ (by omega)]; simp [h]
/-- In the middle. -/
theorem splice_mid {a b c vs : List Value} {k : Nat} (ha : a.length = k) (h : vs.length = b.length) : splice (a ++ (b ++ c)) k vs = a ++ (vs ++ c) := by
  subst ha
  rw [splice_eq _ _ _ (by simp [h]), List.take_left]
  rw [h, ← List.length_append, ← List.append_assoc, List.drop_left, List.append_assoc]
theorem part_mid {a b c : List Value} {k m : Nat} (ha : a.length = k) (hb : b.length = m) : ((a ++ (b ++ c)).drop k).take m = b := by
  subst ha; subst hb
  rw [List.drop_left, List.take_left]

/-! ## A number and its bytes -/
/-- A key (8 bytes), a value (16). -/
structure Kv (m : Nat) where
  n : Int
  b : List Int
  len : b.length = m
  wn : (Lit.int .i64 n).wf = true
  wb : ∀ x ∈ b, (Lit.int .u8 x).wf = true
namespace Kv
variable {m : Nat}
def c (k : Kv m) : List Value := .int .i64 k.n :: k.b.map (.int .u8)
theorem ext' {k j : Kv m} (hn : k.n = j.n) (hb : k.b = j.b) : k = j := by
  cases k; cases j; simp only at hn hb; subst hn; subst hb; rfl
instance : DecidableEq (Kv m) := fun k j => if h : k.n = j.n ∧ k.b = j.b then isTrue (ext' h.1 h.2) else isFalse (fun e => h (by subst e; exact ⟨rfl, rfl⟩))
theorem c_len (k : Kv m) : k.c.length = m + 1 := by simp [c, k.len]
theorem map_inj {α : Type} {f : α → Value} (hf : ∀ a b, f a = f b → a = b) : ∀ {xs ys : List α}, xs.map f = ys.map f → xs = ys
  | [], [], _ => rfl
  | [], y :: ys, h => by simp at h
  | x :: xs, [], h => by simp at h
  | x :: xs, y :: ys, h => by
    simp only [List.map_cons, List.cons.injEq] at h
    rw [hf _ _ h.1, map_inj hf h.2]
theorem c_inj {k j : Kv m} : k.c = j.c ↔ k = j := by
  refine ⟨fun h => ?_, fun h => by rw [h]⟩
  simp only [c, List.cons.injEq, Value.int.injEq, true_and] at h
  exact ext' h.1 (map_inj (fun a b e => by simpa using e) h.2)
def ks (m : Nat) : List Sc := Sc.i .i64 :: List.replicate m (Sc.i .u8)
theorem kinds (k : Kv m) : Kinds (ks m) k.c := by
  refine ⟨by simp [ks, c, k.len], fun j q v h1 h2 => ?_⟩
  cases j with
  | zero => simp [ks, c] at h1 h2; subst h1 h2; exact ⟨k.n, rfl, k.wn⟩
  | succ j =>
    simp only [ks, List.getElem?_cons_succ, List.getElem?_replicate] at h1
    split at h1
    · simp only [Option.some.injEq] at h1
      subst h1
      simp only [c, List.getElem?_cons_succ, List.getElem?_map, Option.map_eq_some_iff] at h2
      obtain ⟨z, hz, rfl⟩ := h2
      exact ⟨z, rfl, k.wb z (List.mem_of_getElem? hz)⟩
    · simp at h1
theorem one (k : Kv m) : ∀ v ∈ k.c, v.oneCell' = true := by
  intro v hv
  rcases List.mem_cons.1 hv with rfl | hv
  · rfl
  · obtain ⟨z, _, rfl⟩ := List.mem_map.1 hv; rfl
theorem eqb {k j : Kv m} : k.c = j.c ↔ decide (k = j) = true := by rw [c_inj, decide_eq_true_eq]
def enc (m : Nat) : Enc (Kv m) := { sz := m + 1, f := Kv.c, len := c_len, pos := by omega, one := one }
end Kv
end Go.Sep
