/- Operations that do something: new blocks, stores, append, calls. Over any program. -/
import Derived.Test.YtpfbagkjhchojaaS4
set_option linter.unusedVariables false
set_option linter.unusedSimpArgs false
namespace Go.Sep
open Go.RowKit
section
variable {P : Program} {n : Nat} {L : Env} {X : World → Prop} {o : Oper} {Q : Exit → Act → World → Prop} {K : Act → World → Prop}

/-- A step that yields a value and turns the world. -/
theorem EOp.val {β : Type} (v : β → Value) (p : β → Prop) (X' : β → World → Prop) {d : Nat} (hd : o.dst = some d) (hn : d.blt n = true)
    (hr : ∀ a w, Know n L a → X w → ∃ b w', (execOp a.eval o).run P w = .ok (.value (v b)) w' ∧ p b ∧ X' b w') (h : ∀ b, p b → Pre n ((d, v b) :: L) (X' b) K) : EOp P n L X o Q K := fun a w k x => by
  obtain ⟨b, w', hrun, hp, hx⟩ := hr a w k x
  show o.upon P a K Q ((execOp a.eval o).run P w)
  rw [hrun]
  show K (a.put o.dst (v b)) w'
  rw [hd]
  exact h b hp _ _ (k.put _ hn) hx
/-- The same, its value not kept. -/
theorem EOp.val0 {β : Type} (v : β → Value) (p : β → Prop) (X' : β → World → Prop) (hd : o.dst = none)
    (hr : ∀ a w, Know n L a → X w → ∃ b w', (execOp a.eval o).run P w = .ok (.value (v b)) w' ∧ p b ∧ X' b w') (h : ∀ b, p b → Pre n L (X' b) K) : EOp P n L X o Q K := fun a w k x => by
  obtain ⟨b, w', hrun, hp, hx⟩ := hr a w k x
  show o.upon P a K Q ((execOp a.eval o).run P w)
  rw [hrun]
  show K (a.put o.dst (v b)) w'
  rw [hd]
  exact h b hp _ _ k hx
/-- A step that yields none. -/
theorem EOp.skip (X' : World → Prop) (hd : o.dst = none) (hr : ∀ a w, Know n L a → X w → ∃ w', (execOp a.eval o).run P w = .ok .skip w' ∧ X' w') (h : Pre n L X' K) : EOp P n L X o Q K := fun a w k x => by
  obtain ⟨w', hrun, hx⟩ := hr a w k x
  show o.upon P a K Q ((execOp a.eval o).run P w)
  rw [hrun]
  show K (a.put o.dst undef) w'
  rw [hd]
  exact h _ _ k hx

/-- Operands' values. -/
def evs (L : Env) : List Operand → Option (List Value)
  | [] => some []
  | x :: xs => match ev L x, evs L xs with
    | some v, some vs => some (v :: vs)
    | _, _ => none
theorem Know.evals {a : Act} (k : Know n L a) : ∀ {xs : List Operand} {vs : List Value}, evs L xs = some vs → xs.map a.eval = vs
  | [], vs, h => by cases h; rfl
  | x :: xs, vs, h => by
    simp only [evs] at h
    cases h1 : ev L x with
    | none => rw [h1] at h; cases h
    | some v =>
      cases h2 : evs L xs with
      | none => rw [h1, h2] at h; cases h
      | some us => rw [h1, h2] at h; cases h; rw [List.map_cons, k.eval h1, k.evals h2]
def evParts (L : Env) : List (Nat × Operand) → Option (List (Nat × Value))
  | [] => some []
  | (i, x) :: xs => match ev L x, evParts L xs with
    | some v, some vs => some ((i, v) :: vs)
    | _, _ => none
theorem Know.evParts {a : Act} (k : Know n L a) : ∀ {xs : List (Nat × Operand)} {vs : List (Nat × Value)}, Sep.evParts L xs = some vs → xs.map (fun (i, x) => (i, a.eval x)) = vs
  | [], vs, h => by cases h; rfl
  | (i, x) :: xs, vs, h => by
    simp only [Sep.evParts] at h
    cases h1 : ev L x with
    | none => rw [h1] at h; cases h
    | some v =>
      cases h2 : Sep.evParts L xs with
      | none => rw [h1, h2] at h; cases h
      | some us => rw [h1, h2] at h; cases h; rw [List.map_cons, k.evParts h2]; simp only [k.eval h1]

/-! ## Calls -/
theorem e_call {β : Type} {v : β → Value} {p : β → Prop} {X' : β → World → Prop} {f : FuncId} {xs : List Operand} {ts : Array TypeId} {d : Nat} {vs : List Value} (ho : o.op = .call ⟨.value (.func f), xs.toArray, ts⟩) (hd : o.dst = some d) (hn : d.blt n = true)
    (hc : ∀ us w, (callFunc f us).run P w = .ok (.enter f us) w) (hv : evs L xs = some vs)
    (hs : ∀ w, X w → Calls P f vs.toArray w (fun e w' => ∃ b, e = .returned (v b) ∧ p b ∧ X' b w')) (h : ∀ b, p b → Pre n ((d, v b) :: L) (X' b) K) : EOp P n L X o Q K := fun a w k x => by
  have hargs : (xs.toArray.map a.eval) = vs.toArray := by rw [List.map_toArray, k.evals hv]
  have hrun : (execOp a.eval o).run P w = .ok (.enter f vs.toArray) w := by
    have h0 : ∀ us : Array Value, (callFunc f (#[] ++ us ++ #[])).run P w = .ok (.enter f us) w := fun us => by simpa using hc us w
    simp only [execOp, ho, resolve, Act.eval, Deferred.ofValue, Sem.run_bind, Sem.run_pure, Result.andThen_ok, invoke, hargs, h0]
  show o.upon P a K Q ((execOp a.eval o).run P w)
  rw [hrun]
  show Calls P f vs.toArray w _
  refine (hs w x).mono ?_
  rintro e w' ⟨b, rfl, hp, hx⟩
  show K (a.put o.dst (v b)) w'
  rw [hd]
  exact h b hp _ _ (k.put _ hn) hx
/-- A call whose value is not kept. -/
theorem e_call0 {β : Type} {v : β → Value} {p : β → Prop} {X' : β → World → Prop} {f : FuncId} {xs : List Operand} {ts : Array TypeId} {vs : List Value} (ho : o.op = .call ⟨.value (.func f), xs.toArray, ts⟩) (hd : o.dst = none)
    (hc : ∀ us w, (callFunc f us).run P w = .ok (.enter f us) w) (hv : evs L xs = some vs)
    (hs : ∀ w, X w → Calls P f vs.toArray w (fun e w' => ∃ b, e = .returned (v b) ∧ p b ∧ X' b w')) (h : ∀ b, p b → Pre n L (X' b) K) : EOp P n L X o Q K := fun a w k x => by
  have hargs : (xs.toArray.map a.eval) = vs.toArray := by rw [List.map_toArray, k.evals hv]
  have hrun : (execOp a.eval o).run P w = .ok (.enter f vs.toArray) w := by
    have h0 : ∀ us : Array Value, (callFunc f (#[] ++ us ++ #[])).run P w = .ok (.enter f us) w := fun us => by simpa using hc us w
    simp only [execOp, ho, resolve, Act.eval, Deferred.ofValue, Sem.run_bind, Sem.run_pure, Result.andThen_ok, invoke, hargs, h0]
  show o.upon P a K Q ((execOp a.eval o).run P w)
  rw [hrun]
  show Calls P f vs.toArray w _
  refine (hs w x).mono ?_
  rintro e w' ⟨b, rfl, hp, hx⟩
  show K (a.put o.dst (v b)) w'
  rw [hd]
  exact h b hp _ _ k hx
/-- A call of a function value: what it captured comes behind. -/
theorem e_callV {β : Type} {v : β → Value} {p : β → Prop} {X' : β → World → Prop} {g : Operand} {f : FuncId} {xs : List Operand} {ts : Array TypeId} {d : Nat} {vs us : List Value} (ho : o.op = .call ⟨.value g, xs.toArray, ts⟩) (hd : o.dst = some d) (hn : d.blt n = true)
    (hg : ev L g = some (.func (.func f) #[] us.toArray)) (hc : ∀ us w, (callFunc f us).run P w = .ok (.enter f us) w) (hv : evs L xs = some vs)
    (hs : ∀ w, X w → Calls P f (vs ++ us).toArray w (fun e w' => ∃ b, e = .returned (v b) ∧ p b ∧ X' b w')) (h : ∀ b, p b → Pre n ((d, v b) :: L) (X' b) K) : EOp P n L X o Q K := fun a w k x => by
  have hargs : (xs.toArray.map a.eval) = vs.toArray := by rw [List.map_toArray, k.evals hv]
  have hrun : (execOp a.eval o).run P w = .ok (.enter f (vs ++ us).toArray) w := by
    have h0 : (callFunc f (#[] ++ vs.toArray ++ us.toArray)).run P w = .ok (.enter f (vs ++ us).toArray) w := by simpa using hc (vs ++ us).toArray w
    simp only [execOp, ho, resolve, k.eval hg, Deferred.ofValue, Sem.run_bind, Sem.run_pure, Result.andThen_ok, invoke, hargs, h0]
  show o.upon P a K Q ((execOp a.eval o).run P w)
  rw [hrun]
  show Calls P f (vs ++ us).toArray w _
  refine (hs w x).mono ?_
  rintro e w' ⟨b, rfl, hp, hx⟩
  show K (a.put o.dst (v b)) w'
  rw [hd]
  exact h b hp _ _ (k.put _ hn) hx

/-! ## New blocks -/
variable {w0 : World} {D : List Nat} {H : List Ent}
theorem run_newRow (e : TypeId) (cs : Array Value) (w : World) : (newRow e cs).run P w = .ok ⟨w.heap.size, 0, none⟩ (w.alloc (.cells cs e)) := by
  simp [newRow]
theorem e_alloc {t : TypeId} {z : Value} {d : Nat} (ho : o.op = .alloc t) (hd : o.dst = some d) (hn : d.blt n = true) (hz : ∀ w, (zeroValue t).run P w = .ok z w)
    (h : ∀ b, Pre n ((d, .pointer (some ⟨b, 0, none⟩)) :: L) (St w0 D (cellsE b t z.cells.toList :: H)) K) : EOp P n L (St w0 D H) o Q K :=
  EOp.val (β := Nat) (fun b => .pointer (some ⟨b, 0, none⟩)) (fun _ => True) (fun b => St w0 D (cellsE b t z.cells.toList :: H)) hd hn (fun a w k x =>
    ⟨w.heap.size, _, by simp only [execOp, ho, Instr.alloc, Sem.run_bind, hz, Result.andThen_ok, newVar, run_newRow, Sem.run_pure], trivial, x.alloc rfl⟩) (fun b _ => h b)
theorem e_box {t : TypeId} {y : Operand} {v : Value} {d : Nat} (ho : o.op = .box t y) (hd : o.dst = some d) (hn : d.blt n = true) (hy : ev L y = some v)
    (h : ∀ b, Pre n ((d, .pointer (some ⟨b, 0, none⟩)) :: L) (St w0 D (cellsE b t v.cells.toList :: H)) K) : EOp P n L (St w0 D H) o Q K :=
  EOp.val (β := Nat) (fun b => .pointer (some ⟨b, 0, none⟩)) (fun _ => True) (fun b => St w0 D (cellsE b t v.cells.toList :: H)) hd hn (fun a w k x =>
    ⟨w.heap.size, _, by simp only [execOp, ho, Instr.box, k.eval hy, Sem.run_bind, Result.andThen_ok, newVar, run_newRow, Sem.run_pure], trivial, x.alloc rfl⟩) (fun b _ => h b)
/-- A literal slice: its cells as 'fill' has them. -/
theorem e_buildSlice {t e : TypeId} {m sz : Nat} {ps : List (Nat × Operand)} {vs : List (Nat × Value)} {zs cs : Array Value} {d : Nat} (ho : o.op = .buildSlice t m ps.toArray) (hd : o.dst = some d) (hn : d.blt n = true) (ht : P.underlying t = some (.slice e))
    (hs : ∀ w, (sizeOf e).run P w = .ok sz w) (hsm : (m * sz).ble 16777216 = true) (hz : ∀ w, (if m * sz = 0 then pure #[] else do pure (← zeroValue e).cells : Sem (Array Value)).run P w = .ok zs w) (hv : evParts L ps = some vs)
    (hf : Instr.fill (fun i => some (i * sz, sz)) ((Array.range (m * sz)).map (zs[· % zs.size]!)) vs = some cs)
    (h : ∀ b, Pre n ((d, .slice (some ⟨b, 0, none⟩) m m) :: L) (St w0 D (cellsE b e cs.toList :: H)) K) : EOp P n L (St w0 D H) o Q K :=
  EOp.val (β := Nat) (fun b => .slice (some ⟨b, 0, none⟩) m m) (fun _ => True) (fun b => St w0 D (cellsE b e cs.toList :: H)) hd hn (fun a w k x =>
    ⟨w.heap.size, w.alloc (.cells cs e), by
      have hle : ¬ (m * sz > 2 ^ 24) := by have := Nat.le_of_ble_eq_true hsm; omega
      have hp : (ps.toArray.map fun (i, x) => (i, a.eval x)) = vs.toArray := by rw [List.map_toArray, k.evParts hv]
      have hz' := hz w
      have hb : (Instr.buildSlice t m vs.toArray).run P w = .ok (.slice (some ⟨w.heap.size, 0, none⟩) m m) (w.alloc (.cells cs e)) := by
        unfold Instr.buildSlice
        simp only [Sem.run_bind, run_und ht, hs, Result.andThen_ok, if_neg hle]
        by_cases h0 : m * sz = 0
        · rw [if_pos h0] at hz' ⊢
          simp only [Sem.run_pure, Result.ok.injEq, and_true] at hz'
          subst hz'
          simp only [Sem.run_bind, Sem.run_pure, Result.andThen_ok]
          rw [hf]
          simp only [Sem.run_bind, run_newRow, Result.andThen_ok, Sem.run_pure]
        · rw [if_neg h0] at hz' ⊢
          simp only [Sem.run_bind, Sem.run_pure, Result.andThen_ok] at hz' ⊢
          cases hzz : (zeroValue e).run P w with
          | halt a w1 => rw [hzz] at hz'; cases hz'
          | ok zv w1 =>
            rw [hzz] at hz'
            simp only [Result.andThen_ok, Result.ok.injEq] at hz' ⊢
            obtain ⟨rfl, rfl⟩ := hz'
            rw [hf]
            simp only [Sem.run_bind, run_newRow, Result.andThen_ok, Sem.run_pure]
      simp only [execOp, ho, hp, Sem.run_bind, hb, Result.andThen_ok, Sem.run_pure], trivial, x.alloc (by simp)⟩) (fun b _ => h b)
/-- Operands numbered from a place on. -/
def numOps : Nat → List Operand → List (Nat × Operand)
  | _, [] => []
  | i, x :: xs => (i, x) :: numOps (i + 1) xs
def numVals : Nat → List Value → List (Nat × Value)
  | _, [] => []
  | i, x :: xs => (i, x) :: numVals (i + 1) xs
theorem evParts_num : ∀ (xs : List Operand) (i : Nat) (vs : List Value), evs L xs = some vs → evParts L (numOps i xs) = some (numVals i vs)
  | [], i, vs, h => by cases h; rfl
  | x :: xs, i, vs, h => by
    simp only [evs] at h
    cases h1 : ev L x with
    | none => rw [h1] at h; cases h
    | some v =>
      cases h2 : evs L xs with
      | none => rw [h1, h2] at h; cases h
      | some us => rw [h1, h2] at h; cases h; simp only [numOps, evParts, numVals, h1, evParts_num xs (i + 1) us h2]
def cellsOf (vs : List Value) : List Value := vs.flatMap (fun v => v.cells.toList)
theorem fold_set (off : Nat) : ∀ (vs : List Value) (k : Nat) (arr : Array Value), off + k + vs.length ≤ arr.size →
    ((vs.zipIdx k).foldl (fun cs (x : Value × Nat) => cs.setIfInBounds (off + x.2) x.1) arr).toList = arr.toList.take (off + k) ++ vs ++ arr.toList.drop (off + k + vs.length)
  | [], k, arr, h => by simp
  | v :: vs, k, arr, h => by
    simp only [List.length_cons] at h
    rw [List.zipIdx_cons, List.foldl_cons, fold_set off vs (k + 1) _ (by simp; omega)]
    have hlt : off + k < arr.toList.length := by rw [Array.length_toList]; omega
    rw [Array.toList_setIfInBounds, List.drop_set_of_lt (by omega), show off + (k + 1) = off + k + 1 from rfl, List.take_succ_eq_append_getElem (by simp; omega), List.take_set, List.set_eq_of_length_le (by simp; omega)]
    simp only [List.getElem_set_self, List.append_assoc, List.cons_append, List.nil_append, List.length_cons]
    rw [show off + k + 1 + vs.length = off + k + (vs.length + 1) from by omega]
theorem fill_num (sz : Nat) : ∀ (vs : List Value) (i : Nat) (arr : Array Value), (vs.all (fun v => v.cells.size == sz)) = true → arr.size = (i + vs.length) * sz →
    ∃ cs, Instr.fill (fun i => some (i * sz, sz)) arr (numVals i vs) = some cs ∧ cs.toList = arr.toList.take (i * sz) ++ cellsOf vs
  | [], i, arr, h, ha => ⟨arr, rfl, by simp [cellsOf]; rw [List.take_of_length_le (by simp [ha])]⟩
  | v :: vs, i, arr, h, ha => by
    simp only [List.all_cons, Bool.and_eq_true, beq_iff_eq] at h
    simp only [List.length_cons] at ha
    have hmul : (i + (vs.length + 1)) * sz = i * sz + sz + vs.length * sz := by rw [Nat.add_mul, Nat.add_mul, Nat.one_mul]; omega
    have hl : v.cells.toList.length = sz := by rw [Array.length_toList, h.1]
    have hf := fold_set (i * sz) v.cells.toList 0 arr (by rw [hl]; omega)
    have hz : v.cells.zipIdx.foldl (fun cs (x : Value × Nat) => cs.setIfInBounds (i * sz + x.2) x.1) arr = (v.cells.toList.zipIdx 0).foldl (fun cs (x : Value × Nat) => cs.setIfInBounds (i * sz + x.2) x.1) arr := by
      rw [← Array.foldl_toList, Array.toList_zipIdx]
    obtain ⟨cs, h1, h2⟩ := fill_num sz vs (i + 1) (v.cells.zipIdx.foldl (fun cs (x : Value × Nat) => cs.setIfInBounds (i * sz + x.2) x.1) arr) h.2 (by
      rw [hz, ← Array.length_toList, hf]; simp only [List.length_append, List.length_take, List.length_drop, Array.length_toList, hl]; rw [show i + 1 + vs.length = i + (vs.length + 1) from by omega, hmul]; omega)
    refine ⟨cs, ?_, ?_⟩
    · simp only [numVals, Instr.fill]
      rw [if_neg (by simp [h.1]; omega)]
      exact h1
    · rw [h2, hz, hf, hl, Nat.add_zero]
      have e1 : (i + 1) * sz = (arr.toList.take (i * sz) ++ v.cells.toList).length := by
        rw [List.length_append, List.length_take, hl, Array.length_toList, Nat.add_mul, Nat.one_mul]; omega
      rw [e1]
      simp only [Nat.add_zero]
      rw [List.take_left]
      simp [cellsOf]
theorem e_buildSliceV {t e : TypeId} {m sz : Nat} {vs : List Value} {z : Value} {d : Nat} (xs : List Operand) (ho : o.op = .buildSlice t m (numOps 0 xs).toArray) (hd : o.dst = some d) (hn : d.blt n = true) (hv : evs L xs = some vs) (hm : vs.length = m) (ht : P.underlying t = some (.slice e))
    (hs : ∀ w, (sizeOf e).run P w = .ok sz w) (hsm : (m * sz).ble 16777216 = true) (hz : ∀ w, (zeroValue e).run P w = .ok z w) (hc : (vs.all (fun v => v.cells.size == sz)) = true)
    (h : ∀ b, Pre n ((d, .slice (some ⟨b, 0, none⟩) m m) :: L) (St w0 D (cellsE b e (cellsOf vs) :: H)) K) : EOp P n L (St w0 D H) o Q K := by
  obtain ⟨cs, h1, h2⟩ := fill_num sz vs 0 ((Array.range (m * sz)).map ((if m * sz = 0 then #[] else z.cells)[· % (if m * sz = 0 then #[] else z.cells).size]!)) hc (by simp [hm])
  rw [Nat.zero_mul, List.take_zero, List.nil_append] at h2
  refine e_buildSlice (sz := sz) (zs := if m * sz = 0 then #[] else z.cells) ho hd hn ht hs hsm (fun w => ?_) (evParts_num xs 0 vs hv) h1 (fun b => by rw [h2]; exact h b)
  split
  · rfl
  · simp [hz]
/-- make([]T, m): m zeroes. -/
theorem e_makeSlice {α : Type} (E : Enc α) (a0 : α) (m : Nat) {t e : TypeId} {i : TypeInfo} {x y : Operand} {z : Value} {d : Nat} {j k : IntKind} {p q : Int} (ho : o.op = .makeSlice t x y) (hd : o.dst = some d) (hn : d.blt n = true) (ht : P.underlying t = some (.slice e))
    (hi : P.info? e = some i) (hs : i.size = E.sz) (hz : i.zero = some z) (hzc : z.cells.toList = E.f a0) (hx : ev L x = some (.int j p)) (hy : ev L y = some (.int k q)) (hp : p = (m : Int)) (hq : q = (m : Int)) (hm : m * i.bytes ≤ 281474976710656) (hm2 : m ≤ 9223372036854775807)
    (h : ∀ v, Pre n ((d, v) :: L) (St w0 D (rowE v e E (List.replicate m a0) :: H)) K) : EOp P n L (St w0 D H) o Q K :=
  EOp.val (β := Value) (fun v => v) (fun _ => True) (fun v => St w0 D (rowE v e E (List.replicate m a0) :: H)) hd hn (fun a w kn x => by
    subst hp; subst hq
    have hflat : ∀ m : Nat, ((Array.range (m * E.sz)).map (z.cells[· % z.cells.size]!)).toList = E.flat (List.replicate m a0) := fun m => by
      have hzl : z.cells.size = E.sz := by rw [← Array.length_toList, hzc, E.len]
      refine List.ext_getElem? (fun c => ?_)
      by_cases hc : c < m * E.sz
      · have hmod : c % E.sz < E.sz := Nat.mod_lt _ E.pos
        have hdiv : c / E.sz < m := (Nat.div_lt_iff_lt_mul E.pos).2 hc
        have e1 : c = c / E.sz * E.sz + c % E.sz := by rw [Nat.mul_comm]; exact (Nat.div_add_mod c E.sz).symm
        have hg := E.flat_get (List.replicate m a0) (c / E.sz) (c % E.sz) a0 _ (by simp [hdiv]) (List.getElem?_eq_getElem (by rw [E.len]; exact hmod))
        rw [← e1] at hg
        rw [hg]
        have h2 : z.cells[c % z.cells.size]! = (E.f a0)[c % E.sz]'(by rw [E.len]; exact hmod) := by
          rw [getElem!_pos z.cells (c % z.cells.size) (by rw [hzl]; exact hmod)]
          have : z.cells.toList[c % z.cells.size]'(by rw [Array.length_toList, hzl]; exact hmod) = (E.f a0)[c % E.sz]'(by rw [E.len]; exact hmod) := by simp only [hzc, hzl]
          simpa using this
        rw [← h2]
        simp [hc]
      · rw [List.getElem?_eq_none (by simp; omega), List.getElem?_eq_none (by rw [E.flat_len]; simp; omega)]
    have hw1 : IntKind.i64.wrap (m : Int) = (m : Int) := wrap64_in (by omega)
    have hzn : ∀ w, (if m * E.sz = 0 then pure #[] else do pure (← zeroValue e).cells : Sem (Array Value)).run P w = .ok (if m * E.sz = 0 then #[] else z.cells) w := fun w => by
      split <;> simp [zeroValue, typeInfo, hi, hz]
    have hrun : (Instr.makeSlice t (.int j (m : Int)) (.int k (m : Int))).run P w = .ok (.slice (some ⟨w.heap.size, 0, none⟩) m m) (w.alloc (.cells ((Array.range (m * E.sz)).map (z.cells[· % z.cells.size]!)) e)) := by
      have h1 : ¬ ((m : Int) < 0) := by omega
      have h2 : ¬ ((i.bytes : Int) * (m : Int) > 2 ^ 48) := by
        have h4 : i.bytes * m ≤ 281474976710656 := by rw [Nat.mul_comm]; exact hm
        have h5 : ((i.bytes * m : Nat) : Int) ≤ 281474976710656 := by omega
        rw [Int.natCast_mul] at h5
        omega
      have h3 : ¬ ((m : Int) > (m : Int)) := by omega
      have hzv : (zeroValue e).run P w = .ok z w := by simp [zeroValue, typeInfo, hi, hz]
      unfold Instr.makeSlice
      simp only [Sem.run_bind, run_und ht, Result.andThen_ok, asInt, asIntOf, Sem.run_pure, Sem.run_map, typeInfo, run_program, hi, hw1]
      simp only [decide_eq_true_eq, h1, h2, h3, decide_false, Bool.or_self, Bool.false_eq_true, if_false, Sem.run_bind, run_askRoom, Result.andThen_ok, sizeOf, typeInfo, run_program, hi, Sem.run_pure, Sem.run_map, hs, Int.toNat_natCast]
      by_cases h0 : m * E.sz = 0
      · have hr0 : ∀ f : Nat → Value, (Array.range 0).map f = #[] := fun f => by simp
        simp [h0, run_newRow, hr0]
      · simp [h0, hzv, run_newRow]
    refine ⟨.slice (some ⟨w.heap.size, 0, none⟩) m m, w.alloc (.cells ((Array.range (m * E.sz)).map (z.cells[· % z.cells.size]!)) e), by simp only [execOp, ho, kn.eval hx, kn.eval hy, Sem.run_bind, hrun, Result.andThen_ok, Sem.run_pure], trivial, ?_⟩
    by_cases h0 : m = 0
    · subst h0
      exact (x.alloc (φ := fun _ => True) trivial).free rfl (.inl ⟨_, rfl, rfl⟩)
    · have hb : ownB (.slice (some ⟨w.heap.size, 0, none⟩) m m) = some w.heap.size := by simp [ownB, h0]
      have h1 := x.alloc (φ := Row (.slice (some ⟨w.heap.size, 0, none⟩) m m) e E (List.replicate m a0)) (o := .cells ((Array.range (m * E.sz)).map (z.cells[· % z.cells.size]!)) e) (.inr ⟨w.heap.size, m, [], [], by simp, by omega, by
        rw [← hflat m, List.nil_append, List.append_nil, Array.toArray_toList], by simp, by simp⟩)
      rw [← hb] at h1
      exact h1) (fun v _ => h v)

/-- A struct or an array out of its parts. -/
theorem q_build {t : TypeId} {ps : List (Nat × Operand)} {pv : List (Nat × Value)} (vs : List Value) (ho : o.op = .build t ps.toArray) (hv : evParts L ps = some pv) (hr : ∀ w, (Instr.build t pv.toArray).run P w = .ok (.agg vs.toArray) w) : QOp P n L X o (.agg vs.toArray) :=
  QOp.mk (fun a => Instr.build t (ps.toArray.map fun (i, x) => (i, a.eval x))) (fun a => by simp [execOp, ho]) (fun a w hk _ => by
    have hp : (ps.toArray.map fun (i, x) => (i, a.eval x)) = pv.toArray := by rw [List.map_toArray, hk.evParts hv]
    rw [hp]; exact hr w)

/-! ## Stores -/
theorem setCell_cells {b off : Nat} {t : TypeId} {cs : List Value} {w : World} (h : w.heap[b]? = some (.cells cs.toArray t (0, 0))) (v : Value) : (w.setCell ⟨b, off, none⟩ v).heap[b]? = some (.cells (cs.set off v).toArray t (0, 0)) := by
  simp only [World.setCell, Array.getElem?_modify, if_true]
  rw [h]
  simp
theorem run_storeC {b off : Nat} {t : TypeId} {cs : List Value} {w : World} {v : Value} (h : St w0 D (cellsE b t cs :: H) w) (hlt : off < cs.length) (hv : v.oneCell' = true) :
    ∃ w', (store ⟨b, off, none⟩ v).run P w = .ok () w' ∧ St w0 D (cellsE b t (cs.set off v) :: H) w' := by
  have hat : (cellsE b t cs).at w := h.at 0 rfl
  refine ⟨w.setCell ⟨b, off, none⟩ v, ?_, ?_⟩
  · rw [run_store _ _ _ _ _ hv, cellsE_cell hat (List.getElem?_eq_getElem hlt), cellsE_free hat]
    rfl
  · exact h.write rfl rfl rfl (by simp [World.setCell]) (fun k hk => Below.heap_setCell _ _ _ _ hk) (setCell_cells hat v)
/-- A store of one cell into the head's block. -/
theorem e_store {t T : TypeId} {x y : Operand} {b off : Nat} {cs : List Value} {v : Value} (ho : o.op = .store t x y) (hd : o.dst = none) (hs : ∀ w, (sizeOf t).run P w = .ok 1 w) (hx : ev L x = some (.pointer (some ⟨b, off, none⟩))) (hy : ev L y = some v) (hv : v.oneCell' = true)
    (hlt : off < cs.length) (h : Pre n L (St w0 D (cellsE b T (cs.set off v) :: H)) K) : EOp P n L (St w0 D (cellsE b T cs :: H)) o Q K :=
  EOp.skip _ hd (fun a w k hX => by
    obtain ⟨w', hr, h'⟩ := run_storeC (P := P) hX hlt hv
    have hc : v.cells = #[v] := by cases v <;> first | rfl | (cases hv; done)
    refine ⟨w', ?_, h'⟩
    simp [execOp, ho, k.eval hx, k.eval hy, Instr.storeAt, Instr.sureAddr, storeVar, hs, hc, storeCells, add_none, hr]) h
/-- Cells one behind the other, put in from a place on. -/
def splice (cs : List Value) (off : Nat) : List Value → List Value
  | [] => cs
  | v :: vs => splice (cs.set off v) (off + 1) vs
theorem splice_eq : ∀ (vs cs : List Value) (off : Nat), off + vs.length ≤ cs.length → splice cs off vs = cs.take off ++ vs ++ cs.drop (off + vs.length)
  | [], cs, off, h => by simp [splice]
  | v :: vs, cs, off, h => by
    simp only [List.length_cons] at h
    have hlt : off < cs.length := by omega
    rw [splice, splice_eq vs _ _ (by simp; omega)]
    rw [List.take_set, List.drop_set_of_lt (by omega), List.take_add_one, List.getElem?_eq_getElem hlt, List.set_append_right _ _ (by simp; omega)]
    simp only [List.length_take, Option.toList_some]
    rw [show off - min off cs.length = 0 from by omega]
    simp only [List.set_cons_zero, List.append_assoc, List.cons_append, List.nil_append, List.length_cons]
    rw [show off + 1 + vs.length = off + (vs.length + 1) from by omega]
theorem splice_len : ∀ (vs cs : List Value) (off : Nat), (splice cs off vs).length = cs.length
  | [], cs, off => rfl
  | v :: vs, cs, off => by rw [splice, splice_len vs, List.length_set]
theorem run_storeCs {b off : Nat} {t : TypeId} : ∀ (vs cs : List Value) (i : Nat) {w : World}, St w0 D (cellsE b t cs :: H) w → off + i + vs.length ≤ cs.length → (∀ v ∈ vs, v.oneCell' = true) →
    ∃ w', (storeCells ⟨b, off, none⟩ vs i).run P w = .ok () w' ∧ St w0 D (cellsE b t (splice cs (off + i) vs) :: H) w'
  | [], cs, i, w, h, hl, h1 => ⟨w, rfl, h⟩
  | v :: vs, cs, i, w, h, hl, h1 => by
    simp only [List.length_cons] at hl
    obtain ⟨w1, hr1, h'1⟩ := run_storeC (P := P) h (off := off + i) (by omega) (h1 v (List.mem_cons_self ..))
    obtain ⟨w2, hr2, h'2⟩ := run_storeCs (b := b) (off := off) vs _ (i + 1) h'1 (by simp; omega) (fun u hu => h1 u (List.mem_cons_of_mem _ hu))
    refine ⟨w2, ?_, h'2⟩
    simp only [storeCells, add_none, Sem.run_bind, hr1, Result.andThen_ok, hr2]
/-- A store of a struct or an array into the head's block. -/
theorem e_storeAgg {t T : TypeId} {x y : Operand} {b off sz : Nat} {cs vs : List Value} (ho : o.op = .store t x y) (hd : o.dst = none) (hs : ∀ w, (sizeOf t).run P w = .ok sz w) (hx : ev L x = some (.pointer (some ⟨b, off, none⟩))) (hy : ev L y = some (.agg vs.toArray)) (hsz : vs.length = sz) (hv : ∀ v ∈ vs, v.oneCell' = true)
    (hlt : off + vs.length ≤ cs.length) (h : Pre n L (St w0 D (cellsE b T (splice cs off vs) :: H)) K) : EOp P n L (St w0 D (cellsE b T cs :: H)) o Q K :=
  EOp.skip _ hd (fun a w k hX => by
    obtain ⟨w', hr, h'⟩ := run_storeCs (P := P) vs cs 0 hX (by simpa using hlt) hv
    refine ⟨w', ?_, h'⟩
    simp [execOp, ho, k.eval hx, k.eval hy, Instr.storeAt, Instr.sureAddr, storeVar, hs, Value.cells, hsz, hr]) h

/-! ### Into an owned slice -/
/-- An owned slice, opened: its block is known whole. -/
theorem row_open {α : Type} {v : Value} {e : TypeId} {E : Enc α} {l : List α} {w : World} (h : St w0 D (rowE v e E l :: H) w) (hl : 0 < l.length) :
    ∃ b cap pre post, v = .slice (some ⟨b, pre.length, none⟩) l.length cap ∧ l.length ≤ cap ∧ post.length = (cap - l.length) * E.sz ∧ St w0 D (cellsE b e (pre ++ E.flat l ++ post) :: H) w := by
  have hat : Row v e E l ((ownB v).bind (w.heap[·]?)) := h.at 0 rfl
  rcases hat with ⟨a, rfl, rfl⟩ | ⟨b, cap, pre, post, rfl, hc, ho, hlc, hp⟩
  · cases hl
  · refine ⟨b, cap, pre, post, rfl, hlc, hp, h.head ?_ (fun _ => ?_)⟩
    · simp [cellsE, rowE, ownB]; omega
    · have : ownB (.slice (some ⟨b, pre.length, none⟩) l.length cap) = some b := by simp [ownB]; omega
      rw [this] at ho
      exact ho
theorem row_close {α : Type} {b cap : Nat} {e : TypeId} {E : Enc α} {l : List α} {pre post : List Value} {w : World} (h : St w0 D (cellsE b e (pre ++ E.flat l ++ post) :: H) w) (hc : 0 < cap) (hl : l.length ≤ cap) (hp : post.length = (cap - l.length) * E.sz) :
    St w0 D (rowE (.slice (some ⟨b, pre.length, none⟩) l.length cap) e E l :: H) w := by
  have hb : ownB (.slice (some ⟨b, pre.length, none⟩) l.length cap) = some b := by simp [ownB]; omega
  refine h.head hb (fun hat => .inr ⟨b, cap, pre, post, rfl, hc, ?_, hl, hp⟩)
  have hat' : w.heap[b]? = some (.cells (pre ++ E.flat l ++ post).toArray e (0, 0)) := hat
  simp only [rowE, hb]
  exact hat'
/-- x[j].k = u -/
theorem e_storeV {α : Type} {E : Enc α} {l : List α} {t e : TypeId} {x y : Operand} {v u : Value} {off : Nat} (j k : Nat) (c : α) {a : α} (ho : o.op = .store t x y) (hd : o.dst = none) (hs : ∀ w, (sizeOf t).run P w = .ok 1 w) (hx : ev L x = some (.pointer (some ⟨blk v, off, none⟩))) (hoff : off = offs v + j * E.sz + k) (hy : ev L y = some u)
    (ha : l[j]? = some a) (hk : k < E.sz) (hc : (E.f a).set k u = E.f c) (h : Pre n L (St w0 D (rowE v e E (l.set j c) :: H)) K) : EOp P n L (St w0 D (rowE v e E l :: H)) o Q K :=
  EOp.skip _ hd (fun ac w kn hX => by
    have hj := (List.getElem?_eq_some_iff.1 ha).1
    have hu : u.oneCell' = true := E.one c u (by rw [← hc]; exact List.mem_set (by rw [E.len]; exact hk) u)
    obtain ⟨b, cap, pre, post, rfl, hlc, hp, h1⟩ := row_open hX (by omega)
    have hlen := E.flat_len l
    have hmul : (j + 1) * E.sz ≤ l.length * E.sz := Nat.mul_le_mul_right _ (by omega)
    rw [Nat.add_mul, Nat.one_mul] at hmul
    obtain ⟨w', hr, h'⟩ := run_storeC (P := P) h1 (off := off) (by subst hoff; simp only [offs, List.length_append, hlen]; omega) hu
    have hset : (pre ++ E.flat l ++ post).set off u = pre ++ E.flat (l.set j c) ++ post := by
      subst hoff
      simp only [offs]
      rw [show pre.length + j * E.sz + k = pre.length + (j * E.sz + k) from by omega, List.append_assoc, set_mid _ _ _ _ (by rw [List.length_append, hlen]; omega), List.set_append_left _ _ (by rw [hlen]; omega), E.flat_set l j k a c u ha hk hc, List.append_assoc]
    rw [hset] at h'
    have hc2 : u.cells = #[u] := by cases u <;> first | rfl | (cases hu; done)
    refine ⟨w', by simp [execOp, ho, kn.eval hx, kn.eval hy, Instr.storeAt, Instr.sureAddr, storeVar, hs, hc2, storeCells, add_none, blk]; simp [hr], ?_⟩
    have := row_close (cap := cap) h' (by omega) (by simpa using hlc) (by simpa using hp)
    simpa using this) h
/-- x[j] = c, a struct or an array -/
theorem e_storeVAgg {α : Type} {E : Enc α} {l : List α} {t e : TypeId} {x y : Operand} {v : Value} {off : Nat} (j : Nat) (c : α) {us : List Value} (ho : o.op = .store t x y) (hd : o.dst = none) (hs : ∀ w, (sizeOf t).run P w = .ok E.sz w) (hx : ev L x = some (.pointer (some ⟨blk v, off, none⟩))) (hoff : off = offs v + j * E.sz) (hy : ev L y = some (.agg us.toArray))
    (hc : us = E.f c) (hj : j < l.length) (h : Pre n L (St w0 D (rowE v e E (l.set j c) :: H)) K) : EOp P n L (St w0 D (rowE v e E l :: H)) o Q K :=
  EOp.skip _ hd (fun ac w kn hX => by
    subst hc
    obtain ⟨b, cap, pre, post, rfl, hlc, hp, h1⟩ := row_open hX (by omega)
    have hlen := E.flat_len l
    have hmul : (j + 1) * E.sz ≤ l.length * E.sz := Nat.mul_le_mul_right _ (by omega)
    rw [Nat.add_mul, Nat.one_mul] at hmul
    have hfit : off + 0 + (E.f c).length ≤ (pre ++ E.flat l ++ post).length := by subst hoff; simp only [offs, List.length_append, hlen, E.len]; omega
    obtain ⟨w', hr, h'⟩ := run_storeCs (P := P) (off := off) (E.f c) _ 0 h1 hfit (E.one c)
    have hset : splice (pre ++ E.flat l ++ post) (off + 0) (E.f c) = pre ++ E.flat (l.set j c) ++ post := by
      rw [splice_eq _ _ _ (by simpa using hfit)]
      subst hoff
      simp only [offs, Nat.add_zero, E.len]
      have e1 : l.set j c = l.take j ++ [c] ++ l.drop (j + 1) := by
        rw [List.set_eq_take_append_cons_drop]; simp [hj]
      rw [e1, E.flat_append, E.flat_append, ← E.flat_take, ← E.flat_drop, Nat.add_mul, Nat.one_mul, E.flat_cons, E.flat_nil, List.append_nil]
      have t1 : (pre ++ E.flat l ++ post).take (pre.length + j * E.sz) = pre ++ (E.flat l).take (j * E.sz) := by
        rw [List.append_assoc, List.take_length_add_append, List.take_append_of_le_length (by rw [hlen]; omega)]
      have t2 : (pre ++ E.flat l ++ post).drop (pre.length + j * E.sz + E.sz) = (E.flat l).drop (j * E.sz + E.sz) ++ post := by
        rw [List.append_assoc, Nat.add_assoc, List.drop_length_add_append, List.drop_append_of_le_length (by rw [hlen]; omega)]
      rw [t1, t2]
      simp only [List.append_assoc]
    rw [hset] at h'
    refine ⟨w', by simp [execOp, ho, kn.eval hx, kn.eval hy, Instr.storeAt, Instr.sureAddr, storeVar, hs, Value.cells, E.len, blk]; simp [hr], ?_⟩
    have := row_close (cap := cap) h' (by omega) (by simpa using hlc) (by simpa using hp)
    simpa using this) h
end
end Go.Sep
