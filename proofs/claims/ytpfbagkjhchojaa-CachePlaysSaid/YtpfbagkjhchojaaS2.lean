/- Regions: as a list of operations; those that draw their order, by one order and a condition on the world that all that is read keeps. Over any program. -/
import Derived.Test.YtpfbagkjhchojaaS1
set_option linter.unusedVariables false
namespace Go.Sep

/-- The guard's slot. -/
def guardSlot (ops : Array Oper) (o : Oper) : Option Nat := o.guard.bind fun (j, _) => (ops[j]?).bind (·.dst)
/-- Is it wanted? By the list. -/
def wantL (ops : Array Oper) (L : Env) (o : Oper) : Option Bool :=
  match o.guard with
  | none => some true
  | some (j, want) =>
    match (ops[j]?).bind (·.dst) with
    | none => none
    | some t => match look L t with
      | some (.bool b) => some (b == want)
      | some _ => some false
      | none => none
theorem wantL_spec {ops : Array Oper} {n : Nat} {L : Env} {a : Act} (k : Know n L a) {o : Oper} {b : Bool} (h : wantL ops L o = some b) : Region.wanted o (yielded ops a.tmps) = b := by
  unfold wantL at h
  unfold Region.wanted
  cases hg : o.guard with
  | none => rw [hg] at h; simp at h; rw [← h]
  | some jw =>
    obtain ⟨j, want⟩ := jw
    rw [hg] at h
    simp only at h ⊢
    cases hd : (ops[j]?).bind (·.dst) with
    | none => rw [hd] at h; cases h
    | some t =>
      rw [hd] at h
      simp only at h
      cases hl : look L t with
      | none => rw [hl] at h; cases h
      | some v =>
        rw [hl] at h
        have := k.get t _ hl
        unfold yielded
        cases v <;> simp only [Option.some.injEq] at h <;> rw [← h] <;> simp [hd, this]

/-- A region in the text's order. -/
def wpL (P : Program) (ops : Array Oper) (Q : Exit → Act → World → Prop) : List Oper → Act → World → Prop
  | [], a, w => Q .normal a w
  | o :: rest, a, w => if Region.wanted o (yielded ops a.tmps) then o.wp P a w (wpL P ops Q rest) Q else wpL P ops Q rest (a.put o.dst undef) w
theorem wpL_sound {P : Program} {ops : Array Oper} {Q : Exit → Act → World → Prop} : ∀ (rest : List Oper) (i : Nat), (∀ j, ops[i + j]? = rest[j]?) → ∀ a w, wpL P ops Q rest a w → wpOps P ops Q (List.range' i rest.length) a w
  | [], i, h, a, w, hw => hw
  | o :: rest, i, h, a, w, hw => by
    simp only [List.length_cons, List.range'_succ]
    rw [wpOps_cons]
    have h0 : ops[i]? = some o := by simpa using h 0
    unfold wpOp
    simp only [h0]
    have hr : ∀ a w, wpL P ops Q rest a w → wpOps P ops Q (List.range' (i + 1) rest.length) a w := wpL_sound rest (i + 1) (fun j => by have := h (j + 1); simpa [Nat.add_assoc, Nat.add_comm 1 j] using this)
    unfold wpL at hw
    split
    · rename_i hq; rw [if_pos hq] at hw; exact .inl (Oper.wp_mono hr hw)
    · rename_i hq; rw [if_neg hq] at hw; exact hr _ _ hw

/-! A region whose last operations (T) wait for all the others: the condition is owed by the others alone. -/
section tail
variable {P : Program} {ops : Array Oper} {Q : Exit → Act → World → Prop} {md : Region.Mode} {S : World → Prop} {T : List Nat}
def wpAnyT (P : Program) (md : Region.Mode) (ops : Array Oper) (Q : Exit → Act → World → Prop) (S : World → Prop) (T : List Nat) : Nat → Array Bool → Act → World → Prop
  | 0, listed, a, w => Region.ready md ops listed = [] ∧ Q .normal a w
  | fuel + 1, listed, a, w =>
    (Region.ready md ops listed = [] → Q .normal a w) ∧
    ∀ i ∈ Region.ready md ops listed, wpOp P ops Q i (fun a' w' => (T.contains i = false → S w') ∧ wpAnyT P md ops Q S T fuel (listed.setIfInBounds i true) a' w') a w
theorem wpAny_of_T : ∀ (fuel : Nat) (listed : Array Bool) (a : Act) (w : World), wpAnyT P md ops Q S T fuel listed a w → wpAny P md ops Q fuel listed a w
  | 0, _, _, _, h => h
  | fuel + 1, _, _, _, h => ⟨h.1, fun i hi => wpOp_mono (fun a' w' h' => wpAny_of_T fuel _ a' w' h'.2) (h.2 i hi)⟩
/-- Does t wait for i, by at most k steps? -/
def waitsFor (md : Region.Mode) (ops : Array Oper) (i : Nat) : Nat → Nat → Bool
  | 0, _ => false
  | k + 1, t => ((ops[t]?).getD default).after.toList.any (fun e => Region.binds md e && (e.on == i || waitsFor md ops i k e.on))
/-- Whoever is listed, those that it waits for are. -/
def Closed (md : Region.Mode) (ops : Array Oper) (listed : Array Bool) : Prop := ∀ j o, ops[j]? = some o → listed.getD j true = true → ∀ e ∈ o.after, Region.binds md e = true → listed.getD e.on false = true
theorem closed_none : Closed md ops (Array.replicate ops.size false) := fun j o ho hl => by
  have hj := (Array.getElem?_eq_some_iff.1 ho).1
  simp [hj] at hl
theorem closed_set {j : Nat} {listed : Array Bool} (h : Closed md ops listed) (hr : j ∈ Region.ready md ops listed) : Closed md ops (listed.setIfInBounds j true) := by
  intro k o ho hl e he hb
  have mono : listed.getD e.on false = true → (listed.setIfInBounds j true).getD e.on false = true := fun h0 => by
    simp only [Array.getD_eq_getD_getElem?, Array.getElem?_setIfInBounds] at h0 ⊢
    split
    · split <;> simp_all
    · exact h0
  by_cases hkj : k = j
  · subst hkj
    obtain ⟨_, oj, hoj, hall⟩ := mem_ready.1 hr
    rw [ho] at hoj; cases hoj
    exact mono (hall e he hb)
  · rw [getD_set_ne true (Ne.symm hkj)] at hl
    exact mono (h k o ho hl e he hb)
theorem waits_listed {i : Nat} {listed : Array Bool} (hc : Closed md ops listed) : ∀ (k t : Nat), waitsFor md ops i k t = true → (∀ o, ops[t]? = some o → ∀ e ∈ o.after, Region.binds md e = true → listed.getD e.on false = true) → listed.getD i false = true
  | 0, t, h, _ => by cases h
  | k + 1, t, h, hd => by
    unfold waitsFor at h
    obtain ⟨e, he, h2⟩ := List.any_eq_true.1 h
    simp only [Bool.and_eq_true, Bool.or_eq_true, beq_iff_eq] at h2
    cases ho : ops[t]? with
    | none =>
      rw [ho] at he
      have h0 : (default : Oper).after = #[] := rfl
      rw [Option.getD_none, h0] at he
      cases he
    | some o =>
      rw [ho, Option.getD_some] at he
      have he' := Array.mem_toList_iff.1 he
      have hl := hd o ho e he' h2.1
      rcases h2.2 with rfl | h3
      · exact hl
      · refine waits_listed hc k e.on h3 (fun o' ho' => hc e.on o' ho' ?_)
        simp only [Array.getD_eq_getD_getElem?] at hl ⊢
        cases hx : listed[e.on]? with
        | none => rfl
        | some b => rw [hx] at hl; simpa using hl
/-- Those of T wait for each of the others. -/
def tailOk (md : Region.Mode) (ops : Array Oper) (T : List Nat) : Bool := T.all (fun t => (List.range ops.size).all (fun i => T.contains i || waitsFor md ops i 4 t))
theorem tailOk_spec {listed : Array Bool} (h : tailOk md ops T = true) (hc : Closed md ops listed) {t i : Nat} (ht : T.contains t = true) (hi : T.contains i = false) (hlt : i < ops.size) (hr : t ∈ Region.ready md ops listed) : listed.getD i false = true := by
  have h1 := List.all_eq_true.1 (List.all_eq_true.1 h t (by simpa using ht)) i (List.mem_range.2 hlt)
  rw [hi, Bool.false_or] at h1
  obtain ⟨_, ot, hot, hall⟩ := mem_ready.1 hr
  exact waits_listed hc 4 t h1 (fun o ho => by rw [hot] at ho; cases ho; exact hall)
theorem wpAnyT_first {i : Nat} {oi : Oper} {v : Value} (hi : ops[i]? = some oi) (hT : tailOk md ops T = true) (hiT : T.contains i = false) (hsel : ∀ (j : Nat) (o : Oper) cs b, ops[j]? = some o → o.op ≠ .select cs b)
    (hQ : ∀ c a w, Q (.panic c) (a.put oi.dst v) w → Q (.panic c) a w) :
    ∀ (fuel : Nat) (listed : Array Bool) (a : Act) (w : World), Closed md ops listed →
      (∀ j oj, ops[j]? = some oj → j ≠ i → listed.getD j true = false → (∀ e ∈ oj.after, Region.binds md e = true → e.on ≠ i) → oi.apart ops oj = true) →
      i ∈ Region.ready md ops listed → YieldsIf P ops S oi v a → S w →
      wpAnyT P md ops Q S T fuel (listed.setIfInBounds i true) (a.put oi.dst v) w → wpAnyT P md ops Q S T (fuel + 1) listed a w := by
  intro fuel
  induction fuel with
  | zero =>
    intro listed a w _ _ hr hy hS H
    refine ⟨fun h => (by rw [h] at hr; cases hr), fun j hj => ?_⟩
    by_cases hji : j = i
    · subst hji; exact hy.wpOp hi hS ⟨fun _ => hS, H⟩
    · have := ready_mono hj hji
      rw [H.1] at this
      cases this
  | succ fuel ih =>
    intro listed a w hcl hfree hr hy hS H
    refine ⟨fun h => (by rw [h] at hr; cases hr), fun j hj => ?_⟩
    by_cases hji : j = i
    · subst hji; exact hy.wpOp hi hS ⟨fun _ => hS, H⟩
    · have h1 := H.2 j (ready_mono hj hji)
      obtain ⟨hjun, oj, hoj, hall⟩ := mem_ready.1 hj
      have hnl : listed.getD i false ≠ true := fun h1 => by
        have h0 := (mem_ready.1 hr).1
        rcases Nat.lt_or_ge i listed.size with h' | h'
        · simp [h'] at h0 h1; rw [h0] at h1; cases h1
        · simp [Array.getElem?_eq_none h'] at h1
      have hnot : ∀ e ∈ oj.after, Region.binds md e = true → e.on ≠ i := fun e he hb heq => hnl (heq ▸ hall e he hb)
      have hjT : T.contains j = false := by
        cases hc : T.contains j with
        | false => rfl
        | true => exact absurd (tailOk_spec hT hcl hc hiT (Array.getElem?_eq_some_iff.1 hi).1 hj) hnl
      have h2 := wpOp_putIf hoj (hfree j oj hoj hji hjun hnot) (fun cs b => hsel i oi cs b hi) (fun cs b => hsel j oj cs b hoj) hQ hy h1
      have hfree' : ∀ k ok, ops[k]? = some ok → k ≠ i → (listed.setIfInBounds j true).getD k true = false →
          (∀ e ∈ ok.after, Region.binds md e = true → e.on ≠ i) → oi.apart ops ok = true := fun k ok hk hki hun hno => by
        refine hfree k ok hk hki ?_ hno
        by_cases hjk : j = k
        · subst hjk; exact hjun
        · rw [getD_set_ne true hjk] at hun; exact hun
      refine wpOp_mono (fun a' w' h3 => ⟨h3.2.1, ih (listed.setIfInBounds j true) a' w' (closed_set hcl hj) hfree' (ready_mono hr (Ne.symm hji)) h3.1 (h3.2.1 hjT) ?_⟩) h2
      rw [Array.setIfInBounds_comm _ _ hji]
      exact h3.2.2
end tail
/-- An operation of a region that draws its order: taken first; the one that may come up; of the tail. -/
abbrev Kind := Option Bool
def wpD (P : Program) (ops : Array Oper) (Q : Exit → Act → World → Prop) (S : World → Prop) : List (Oper × Kind) → Act → World → Prop
  | [], a, w => Q .normal a w
  | (o, some true) :: rest, a, w => ∃ v, YieldsIf P ops S o v a ∧ wpD P ops Q S rest (a.put o.dst v) w
  | (o, some false) :: rest, a, w => if Region.wanted o (yielded ops a.tmps) then o.wp P a w (fun a' w' => S w' ∧ wpD P ops Q S rest a' w') Q else wpD P ops Q S rest (a.put o.dst undef) w
  | (o, none) :: rest, a, w => if Region.wanted o (yielded ops a.tmps) then o.wp P a w (wpD P ops Q S rest) Q else wpD P ops Q S rest (a.put o.dst undef) w
/-- The order may be taken. -/
def orderOk (ops : Array Oper) (T : List Nat) : List (Nat × Kind) → Array Bool → Bool
  | [], listed => Region.ready .any ops listed == []
  | (i, some true) :: rest, listed => !T.contains i && Region.free .any ops listed i && (Region.ready .any ops listed).contains i && orderOk ops T rest (listed.setIfInBounds i true)
  | (i, some false) :: rest, listed => Region.ready .any ops listed == [i] && orderOk ops T rest (listed.setIfInBounds i true)
  | (i, none) :: rest, listed => T.contains i && Region.ready .any ops listed == [i] && rest.all (fun x => match x.2 with | none => true | _ => false) && orderOk ops T rest (listed.setIfInBounds i true)
/-- A panic's post looks at no slot. -/
def Blind (Q : Exit → Act → World → Prop) : Prop := ∀ c a d v w, Q (.panic c) (a.put d v) w → Q (.panic c) a w
theorem blind_then {K : Act → World → Prop} {Q : Exit → Act → World → Prop} (h : Blind Q) : Blind (Exit.then K Q) := fun c a d v w hq => h c a d v w hq
theorem blind_block {id : Nat} {Q : Exit → Act → World → Prop} (h : Blind Q) : Blind (Exit.inBlock id Q) := fun c a d v w hq => h c a d v w hq
theorem blind_body {P : Program} {fn : Func} {R : Ending → World → Prop} : Blind (bodyPost P fn R) := fun c a d v w hq => by
  obtain ⟨h1, h2⟩ := hq
  exact ⟨by cases d <;> exact h1, h2⟩
theorem wpT_take {P : Program} {ops : Array Oper} {Q : Exit → Act → World → Prop} {S : World → Prop} {T : List Nat} {i : Nat} {oi : Oper} {v : Value} {fuel : Nat} {listed : Array Bool} {a : Act} {w : World} (hcl : Closed .any ops listed) (hi : ops[i]? = some oi) (hT : tailOk .any ops T = true) (hiT : T.contains i = false)
    (hs : Region.noSelect ops = true) (hf : Region.free .any ops listed i = true) (hr : (Region.ready .any ops listed).contains i = true)
    (hQ : ∀ c a w, Q (.panic c) (a.put oi.dst v) w → Q (.panic c) a w) (hy : YieldsIf P ops S oi v a) (hS : S w)
    (h : wpAnyT P .any ops Q S T fuel (listed.setIfInBounds i true) (a.put oi.dst v) w) : wpAnyT P .any ops Q S T (fuel + 1) listed a w :=
  wpAnyT_first hi hT hiT (Region.noSelect_spec hs) hQ fuel listed a w hcl (Region.free_spec hi hf) (by simpa using hr) hy hS h
theorem wpT_one {P : Program} {ops : Array Oper} {Q : Exit → Act → World → Prop} {S : World → Prop} {T : List Nat} {i : Nat} {fuel : Nat} {listed : Array Bool} {a : Act} {w : World} (hr : Region.ready .any ops listed = [i])
    (h : wpOp P ops Q i (fun a' w' => (T.contains i = false → S w') ∧ wpAnyT P .any ops Q S T fuel (listed.setIfInBounds i true) a' w') a w) : wpAnyT P .any ops Q S T (fuel + 1) listed a w :=
  ⟨fun h0 => (by rw [h0] at hr; cases hr), fun j hj => by rw [hr] at hj; simp only [List.mem_singleton] at hj; subst hj; exact h⟩
theorem wpD_sound {P : Program} {ops : Array Oper} {Q : Exit → Act → World → Prop} (hB : Blind Q) {S : World → Prop} {T : List Nat} (hT : tailOk .any ops T = true) (hs : Region.noSelect ops = true) : ∀ (ord : List (Nat × Kind)) (l : List (Oper × Kind)) (listed : Array Bool) (a : Act) (w : World),
    l.map (fun x => some x.1) = ord.map (fun x => ops[x.1]?) → l.map (·.2) = ord.map (·.2) → orderOk ops T ord listed = true → Closed .any ops listed → (S w ∨ (ord.all (fun x => match x.2 with | none => true | _ => false)) = true) → wpD P ops Q S l a w → wpAnyT P .any ops Q S T ord.length listed a w
  | [], l, listed, a, w, h1, h2, h3, hcl, hS, hw => by
    cases l with
    | nil => exact ⟨by simpa [orderOk] using h3, hw⟩
    | cons x l => simp at h1
  | (i, q) :: ord, [], listed, a, w, h1, h2, h3, hcl, hS, hw => by simp at h1
  | (i, q) :: ord, (o, q') :: l, listed, a, w, h1, h2, h3, hcl, hS, hw => by
    simp only [List.map_cons, List.cons.injEq] at h1 h2
    obtain ⟨ho, h1⟩ := h1
    obtain ⟨rfl, h2⟩ := h2
    match q', h2, h3, hS, hw with
    | some true, h2, h3, hS, hw =>
      simp only [orderOk, Bool.and_eq_true, Bool.not_eq_true'] at h3
      obtain ⟨⟨⟨hiT, hf⟩, hr⟩, h3⟩ := h3
      have hS' : S w := hS.resolve_right (by simp)
      obtain ⟨v, hy, hw⟩ := hw
      have hri : i ∈ Region.ready .any ops listed := by simpa using hr
      exact wpT_take hcl ho.symm hT hiT hs hf hr (fun c a w h => hB c a _ _ w h) hy hS' (wpD_sound hB hT hs ord l _ _ _ h1 h2 h3 (closed_set hcl hri) (.inl hS') hw)
    | some false, h2, h3, hS, hw =>
      simp only [orderOk, Bool.and_eq_true, beq_iff_eq] at h3
      obtain ⟨hr, h3⟩ := h3
      have hS' : S w := hS.resolve_right (by simp)
      have hri : i ∈ Region.ready .any ops listed := by rw [hr]; exact List.mem_cons_self ..
      refine wpT_one hr ?_
      unfold wpOp
      rw [← ho]
      simp only
      unfold wpD at hw
      split
      · rename_i hq
        rw [if_pos hq] at hw
        exact .inl (Oper.wp_mono (fun a w h => ⟨fun _ => h.1, wpD_sound hB hT hs ord l _ _ _ h1 h2 h3 (closed_set hcl hri) (.inl h.1) h.2⟩) hw)
      · rename_i hq
        rw [if_neg hq] at hw
        exact ⟨fun _ => hS', wpD_sound hB hT hs ord l _ _ _ h1 h2 h3 (closed_set hcl hri) (.inl hS') hw⟩
    | none, h2, h3, hS, hw =>
      simp only [orderOk, Bool.and_eq_true, beq_iff_eq] at h3
      obtain ⟨⟨⟨hiT, hr⟩, hall⟩, h3⟩ := h3
      have hri : i ∈ Region.ready .any ops listed := by rw [hr]; exact List.mem_cons_self ..
      refine wpT_one hr ?_
      unfold wpOp
      rw [← ho]
      simp only
      unfold wpD at hw
      split
      · rename_i hq
        rw [if_pos hq] at hw
        exact .inl (Oper.wp_mono (fun a w h => ⟨fun hc => (by rw [hiT] at hc; cases hc), wpD_sound hB hT hs ord l _ _ _ h1 h2 h3 (closed_set hcl hri) (.inr hall) h⟩) hw)
      · rename_i hq
        rw [if_neg hq] at hw
        exact ⟨fun hc => (by rw [hiT] at hc; cases hc), wpD_sound hB hT hs ord l _ _ _ h1 h2 h3 (closed_set hcl hri) (.inr hall) hw⟩

/-- A predicate that a draw leaves. -/
def Drawn (X : World → Prop) : Prop := ∀ w m, X w → X { w with drawn := m }

section region
variable {P : Program} {n : Nat} {L : Env} {X : World → Prop} {Q : Exit → Act → World → Prop} {ops : Array Oper}
theorem c_region {id : Nat} (l : List Oper) (hl : ops = l.toArray) (h : Pre n L X (wpL P ops Q l)) : Pre n L X ((Code.region id ops false).wp P Q) := fun a w k x => by
  subst hl
  refine wp_region ?_
  have := wpL_sound (P := P) (ops := l.toArray) (Q := Q) l 0 (fun j => by simp) a w (h a w k x)
  simpa [List.range_eq_range'] using this
theorem c_draw {id : Nat} {l0 : List Oper} (ord : List (Nat × Kind)) (T : List Nat) (l : List (Oper × Kind)) (S : World → Prop) (hB : Blind Q) (hm : P.follows .mixedOrders = true) (hs : Region.noSelect l0.toArray = true) (hT : tailOk .any l0.toArray T = true) (hl : ord.length = l0.length)
    (h1 : l.map (fun x => some x.1) = ord.map (fun x => l0[x.1]?)) (h2 : l.map (·.2) = ord.map (·.2)) (hok : orderOk l0.toArray T ord (Array.replicate l0.length false) = true)
    (hd : Drawn X) (hS : ∀ w, X w → S w) (h : Pre n L X (wpD P l0.toArray Q S l)) : Pre n L X ((Code.region id l0.toArray true).wp P Q) := fun a w k x => by
  refine wp_region_any hm (wpAny_of_T (S := S) (T := T) _ _ _ _ ?_)
  have h1' : l.map (fun x => some x.1) = ord.map (fun x => l0.toArray[x.1]?) := by simpa using h1
  rw [List.size_toArray, ← hl]
  exact wpD_sound hB hT hs ord l _ a _ h1' h2 (by rw [hl]; exact hok) (by rw [hl]; simpa using closed_none (ops := l0.toArray)) (.inl (hS _ (hd w _ x))) (h a _ k (hd w _ x))

theorem l_nil (h : Pre n L X (Q .normal)) : Pre n L X (wpL P ops Q []) := h
theorem d_nil {S : World → Prop} (h : Pre n L X (Q .normal)) : Pre n L X (wpD P ops Q S []) := h

/-- An operation that yields a value and leaves the world, whatever world meets X. -/
def QOp (P : Program) (n : Nat) (L : Env) (X : World → Prop) (o : Oper) (v : Value) : Prop := ∀ a w, Know n L a → X w → (execOp a.eval o).run P w = .ok (.value v) w
theorem l_q {o : Oper} {rest : List Oper} {v : Value} {d : Nat} (hd : o.dst = some d) (hq : QOp P n L X o v) (hw : wantL ops L o = some true) (hn : d.blt n = true) (h : Pre n ((d, v) :: L) X (wpL P ops Q rest)) : Pre n L X (wpL P ops Q (o :: rest)) := fun a w k x => by
  unfold wpL
  rw [if_pos (wantL_spec k hw)]
  unfold Oper.wp
  rw [hq a w k x]
  show wpL P ops Q rest (a.put o.dst v) w
  rw [hd]
  exact h _ _ (k.put v hn) x
theorem l_not {o : Oper} {rest : List Oper} {d : Nat} (hd : o.dst = some d) (hw : wantL ops L o = some false) (hn : d.blt n = true) (h : Pre n ((d, undef) :: L) X (wpL P ops Q rest)) : Pre n L X (wpL P ops Q (o :: rest)) := fun a w k x => by
  unfold wpL
  rw [if_neg (by rw [wantL_spec k hw]; simp), hd]
  exact h _ _ (k.put undef hn) x
theorem l_not0 {o : Oper} {rest : List Oper} (hd : o.dst = none) (hw : wantL ops L o = some false) (h : Pre n L X (wpL P ops Q rest)) : Pre n L X (wpL P ops Q (o :: rest)) := fun a w k x => by
  unfold wpL
  rw [if_neg (by rw [wantL_spec k hw]; simp), hd]
  exact h _ _ k x
theorem d_q {S : World → Prop} {o : Oper} {rest : List (Oper × Kind)} {v : Value} {d : Nat} (hd : o.dst = some d) (hq : QOp P n L S o v) (hw : wantL ops L o = some true) (hn : d.blt n = true) (h : Pre n ((d, v) :: L) X (wpD P ops Q S rest)) : Pre n L X (wpD P ops Q S ((o, some true) :: rest)) := fun a w k x => by
  refine ⟨v, Or.inl ⟨wantL_spec k hw, fun w' hS => hq a w' k hS⟩, ?_⟩
  rw [hd]
  exact h _ _ (k.put v hn) x
theorem d_not {S : World → Prop} {o : Oper} {q : Kind} {rest : List (Oper × Kind)} {d : Nat} (hd : o.dst = some d) (hw : wantL ops L o = some false) (hn : d.blt n = true) (h : Pre n ((d, undef) :: L) X (wpD P ops Q S rest)) : Pre n L X (wpD P ops Q S ((o, q) :: rest)) := fun a w k x => by
  match q with
  | some true =>
    refine ⟨undef, Or.inr ⟨wantL_spec k hw, rfl⟩, ?_⟩
    rw [hd]
    exact h _ _ (k.put undef hn) x
  | some false =>
    unfold wpD
    rw [if_neg (by rw [wantL_spec k hw]; simp), hd]
    exact h _ _ (k.put undef hn) x
  | none =>
    unfold wpD
    rw [if_neg (by rw [wantL_spec k hw]; simp), hd]
    exact h _ _ (k.put undef hn) x
theorem d_not0 {S : World → Prop} {o : Oper} {q : Kind} {rest : List (Oper × Kind)} (hd : o.dst = none) (hw : wantL ops L o = some false) (h : Pre n L X (wpD P ops Q S rest)) : Pre n L X (wpD P ops Q S ((o, q) :: rest)) := fun a w k x => by
  match q with
  | some true =>
    refine ⟨undef, Or.inr ⟨wantL_spec k hw, rfl⟩, ?_⟩
    rw [hd]
    exact h _ _ k x
  | some false =>
    unfold wpD
    rw [if_neg (by rw [wantL_spec k hw]; simp), hd]
    exact h _ _ k x
  | none =>
    unfold wpD
    rw [if_neg (by rw [wantL_spec k hw]; simp), hd]
    exact h _ _ k x
/-- An operation that does something: its own step, then what comes behind. -/
def EOp (P : Program) (n : Nat) (L : Env) (X : World → Prop) (o : Oper) (Q : Exit → Act → World → Prop) (K : Act → World → Prop) : Prop := Pre n L X (fun a w => o.wp P a w K Q)
theorem l_e {o : Oper} {rest : List Oper} (hw : wantL ops L o = some true) (h : EOp P n L X o Q (wpL P ops Q rest)) : Pre n L X (wpL P ops Q (o :: rest)) := fun a w k x => by
  unfold wpL
  rw [if_pos (wantL_spec k hw)]
  exact h a w k x
/-- What comes behind, once the condition on the world is shown anew. -/
def Held (S : World → Prop) (F : Act → World → Prop) : Act → World → Prop := fun a w => S w ∧ F a w
theorem d_e {S : World → Prop} {o : Oper} {rest : List (Oper × Kind)} (hw : wantL ops L o = some true) (h : EOp P n L X o Q (Held S (wpD P ops Q S rest))) : Pre n L X (wpD P ops Q S ((o, some false) :: rest)) := fun a w k x => by
  unfold wpD
  rw [if_pos (wantL_spec k hw)]
  exact h a w k x
theorem d_t {S : World → Prop} {o : Oper} {rest : List (Oper × Kind)} (hw : wantL ops L o = some true) (h : EOp P n L X o Q (wpD P ops Q S rest)) : Pre n L X (wpD P ops Q S ((o, none) :: rest)) := fun a w k x => by
  unfold wpD
  rw [if_pos (wantL_spec k hw)]
  exact h a w k x
theorem d_held {S : World → Prop} {F : Act → World → Prop} (hS : ∀ w, X w → S w) (h : Pre n L X F) : Pre n L X (Held S F) := fun a w k x => ⟨hS w x, h a w k x⟩
/-- What a Bool in a slot is, once it is known. -/
theorem Pre.setB {F : Act → World → Prop} {t : Nat} {b c : Bool} (hl : look L t = some (.bool b)) (e : b = c) (h : Pre n ((t, .bool c) :: L) X F) : Pre n L X F := fun a w k x => h a w (k.sub (Sub.cons (by rw [hl, e]) (fun _ _ h => h))) x
/-- What is in a slot, said otherwise. -/
theorem Pre.setV {F : Act → World → Prop} {t : Nat} {b c : Value} (hl : look L t = some b) (e : b = c) (h : Pre n ((t, c) :: L) X F) : Pre n L X F := fun a w k x => h a w (k.sub (Sub.cons (by rw [hl, e]) (fun _ _ h => h))) x
/-- A Bool in a slot, decided. -/
theorem Pre.caseB {F : Act → World → Prop} {b : Bool} (t : Nat) (hl : look L t = some (.bool b)) (h1 : b = true → Pre n ((t, .bool true) :: L) X F) (h2 : b = false → Pre n ((t, .bool false) :: L) X F) : Pre n L X F := by
  cases b with
  | true => exact Pre.setB hl rfl (h1 rfl)
  | false => exact Pre.setB hl rfl (h2 rfl)
end region

/-! ## Regions in which more than one thing may come up -/
section anyH
variable {P : Program} {n : Nat} {L : Env} {X : World → Prop} {Q : Exit → Act → World → Prop} {S : World → Prop} {l : List Oper} {listed : Array Bool} {k : Nat}
theorem c_any {id : Nat} (S : World → Prop) (hm : P.follows .mixedOrders = true) (hd : Drawn X) (h : Pre n L X (wpAnyH P .any l.toArray Q S l.toArray.size (Array.replicate l.toArray.size false))) : Pre n L X ((Code.region id l.toArray true).wp P Q) := fun a w kn x =>
  wp_region_held (S := S) hm (h a _ kn (hd w _ x))
theorem a_q {o : Oper} {v : Value} {d : Nat} (hB : Blind Q) (i : Nat) (hi : l[i]? = some o) (hs : Region.noSelect l.toArray = true) (hf : Region.free .any l.toArray listed i = true) (hr : (Region.ready .any l.toArray listed).contains i = true) (hXS : ∀ w, X w → S w) (hd : o.dst = some d) (hq : QOp P n L S o v) (hw : wantL l.toArray L o = some true) (hn : d.blt n = true)
    (h : Pre n ((d, v) :: L) X (wpAnyH P .any l.toArray Q S k (listed.setIfInBounds i true))) : Pre n L X (wpAnyH P .any l.toArray Q S (k + 1) listed) := fun a w kn x =>
  wpAnyH_take (by rw [List.getElem?_toArray]; exact hi) hs hf hr (fun c a w h => hB c a _ _ w h) (Or.inl ⟨wantL_spec kn hw, fun w' hS => hq a w' kn hS⟩) (hXS w x) (by
    rw [hd]; exact h _ _ (kn.put v hn) x)
/-- What comes behind the i-th. -/
abbrev Behind (P : Program) (l : List Oper) (Q : Exit → Act → World → Prop) (S : World → Prop) (k : Nat) (listed : Array Bool) (i : Nat) : Act → World → Prop := Held S (wpAnyH P .any l.toArray Q S k (listed.setIfInBounds i true))
theorem a_op {o : Oper} {i : Nat} (hi : l[i]? = some o) (hw : wantL l.toArray L o = some true) (h : EOp P n L X o Q (Behind P l Q S k listed i)) : Pre n L X (wpOp P l.toArray Q i (fun a' w' => S w' ∧ wpAnyH P .any l.toArray Q S k (listed.setIfInBounds i true) a' w')) := fun a w kn x => by
  unfold wpOp
  rw [List.getElem?_toArray, hi]
  simp only [wantL_spec kn hw, if_true]
  exact .inl (h a w kn x)
theorem a_all1 {o1 : Oper} (i1 : Nat) (hr : Region.ready .any l.toArray listed = [i1]) (h1 : l[i1]? = some o1) (w1 : wantL l.toArray L o1 = some true) (g1 : EOp P n L X o1 Q (Behind P l Q S k listed i1)) : Pre n L X (wpAnyH P .any l.toArray Q S (k + 1) listed) := fun a w kn x =>
  wpAnyH_all hr (by simp) (fun j hj => by simp only [List.mem_cons, List.not_mem_nil, or_false] at hj; subst hj; exact a_op h1 w1 g1 a w kn x)
theorem a_all2 {o1 o2 : Oper} (i1 i2 : Nat) (hr : Region.ready .any l.toArray listed = [i1, i2]) (h1 : l[i1]? = some o1) (h2 : l[i2]? = some o2) (w1 : wantL l.toArray L o1 = some true) (w2 : wantL l.toArray L o2 = some true)
    (g1 : EOp P n L X o1 Q (Behind P l Q S k listed i1)) (g2 : EOp P n L X o2 Q (Behind P l Q S k listed i2)) : Pre n L X (wpAnyH P .any l.toArray Q S (k + 1) listed) := fun a w kn x =>
  wpAnyH_all hr (by simp) (fun j hj => by
    simp only [List.mem_cons, List.not_mem_nil, or_false] at hj
    rcases hj with rfl | rfl
    · exact a_op h1 w1 g1 a w kn x
    · exact a_op h2 w2 g2 a w kn x)
theorem a_all3 {o1 o2 o3 : Oper} (i1 i2 i3 : Nat) (hr : Region.ready .any l.toArray listed = [i1, i2, i3]) (h1 : l[i1]? = some o1) (h2 : l[i2]? = some o2) (h3 : l[i3]? = some o3) (w1 : wantL l.toArray L o1 = some true) (w2 : wantL l.toArray L o2 = some true) (w3 : wantL l.toArray L o3 = some true)
    (g1 : EOp P n L X o1 Q (Behind P l Q S k listed i1)) (g2 : EOp P n L X o2 Q (Behind P l Q S k listed i2)) (g3 : EOp P n L X o3 Q (Behind P l Q S k listed i3)) : Pre n L X (wpAnyH P .any l.toArray Q S (k + 1) listed) := fun a w kn x =>
  wpAnyH_all hr (by simp) (fun j hj => by
    simp only [List.mem_cons, List.not_mem_nil, or_false] at hj
    rcases hj with rfl | rfl | rfl
    · exact a_op h1 w1 g1 a w kn x
    · exact a_op h2 w2 g2 a w kn x
    · exact a_op h3 w3 g3 a w kn x)
theorem a_nil (hr : Region.ready .any l.toArray listed = []) (h : Pre n L X (Q .normal)) : Pre n L X (wpAnyH P .any l.toArray Q S k listed) := fun a w kn x => wpAnyH_done hr (h a w kn x) k
end anyH
end Go.Sep
