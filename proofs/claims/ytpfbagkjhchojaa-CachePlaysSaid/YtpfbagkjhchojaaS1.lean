/- The walk by triples: what is known of the slots as a list, of the world as a predicate; rules for code and for regions. Over any program. -/
import Derived.OrdersHeld
import Derived.WalkKit
set_option linter.unusedVariables false
namespace Go.Sep

/-- What is known of the slots, the newest first. -/
abbrev Env := List (Nat × Value)
/-- The newest that is known of a slot. -/
def look : Env → Nat → Option Value
  | [], _ => none
  | (i, v) :: L, k => bif i.beq k then some v else look L k

/-- The slots of an activation are as a list says. -/
structure Know (n : Nat) (L : Env) (a : Act) : Prop where
  size : a.tmps.size = n
  defers : a.defers = []
  get : ∀ i v, look L i = some v → a.tmps[i]? = some v

theorem Know.put {n : Nat} {L : Env} {a : Act} (h : Know n L a) {d : Nat} (v : Value) (hd : d.blt n = true) : Know n ((d, v) :: L) (a.put (some d) v) := by
  have hd' : d < n := by simpa [Nat.blt_eq] using hd
  refine ⟨by simp [Act.put, h.size], h.defers, fun i u hu => ?_⟩
  simp only [look] at hu
  by_cases hi : d = i
  · subst hi
    simp at hu
    subst hu
    simp [Act.put, h.size, hd']
  · have : d.beq i = false := by rw [Bool.eq_false_iff]; intro h'; exact hi (Nat.eq_of_beq_eq_true h')
    rw [this] at hu
    simp at hu
    simp [Act.put, Array.getElem?_setIfInBounds_ne hi]
    simpa using h.get i u hu

/-- A list says no more than another one. -/
def Sub (L' L : Env) : Prop := ∀ i v, look L' i = some v → look L i = some v
theorem Sub.nil {L : Env} : Sub [] L := fun _ _ h => by cases h
theorem Sub.cons {L' L : Env} {i : Nat} {v : Value} (h : look L i = some v) (t : Sub L' L) : Sub ((i, v) :: L') L := fun k u hu => by
  simp only [look] at hu
  by_cases hi : i = k
  · subst hi; simp at hu; subst hu; exact h
  · have : i.beq k = false := by rw [Bool.eq_false_iff]; intro h'; exact hi (Nat.eq_of_beq_eq_true h')
    rw [this] at hu; exact t k u hu
theorem Sub.consE {L' L : Env} {i : Nat} {v u : Value} (h : look L i = some u) (e : u = v) (t : Sub L' L) : Sub ((i, v) :: L') L := Sub.cons (e ▸ h) t
theorem Know.sub {n : Nat} {L L' : Env} {a : Act} (h : Know n L a) (s : Sub L' L) : Know n L' a := ⟨h.size, h.defers, fun i v hv => h.get i v (s i v hv)⟩

/-- An operand's value, by the list. -/
def ev (L : Env) : Operand → Option Value
  | .tmp t => look L t
  | .const v => some v
  | .global g => some (.pointer (some ⟨g, 0, none⟩))
  | .func f => some (.func (.func f) #[] #[])
theorem Know.eval {n : Nat} {L : Env} {a : Act} (h : Know n L a) {x : Operand} {v : Value} (hx : ev L x = some v) : a.eval x = v := by
  cases x with
  | tmp t => have := h.get t v hx; simp [Act.eval, Array.getD_eq_getD_getElem?, this]
  | const u => simp [ev] at hx; subst hx; rfl
  | global g => simp [ev] at hx; subst hx; rfl
  | func f => simp [ev] at hx; subst hx; rfl

/-- From every state that is as the list and the predicate say, F. -/
def Pre (n : Nat) (L : Env) (X : World → Prop) (F : Act → World → Prop) : Prop := ∀ a w, Know n L a → X w → F a w

section code
variable {P : Program} {n : Nat} {L : Env} {X : World → Prop} {Q : Exit → Act → World → Prop}

theorem Pre.sub {F : Act → World → Prop} (L' : Env) (s : Sub L' L) (h : Pre n L' X F) : Pre n L X F := fun a w k x => h a w (k.sub s) x
theorem Pre.world {F : Act → World → Prop} (X' : World → Prop) (s : ∀ w, X w → X' w) (h : Pre n L X' F) : Pre n L X F := fun a w k x => h a w k (s w x)
/-- A fact that the world's predicate gives. -/
theorem Pre.fact {F : Act → World → Prop} {p : Prop} (s : ∀ w, X w → p) (h : p → Pre n L X F) : Pre n L X F := fun a w k x => h (s w x) a w k x
theorem Pre.factE {F : Act → World → Prop} {α : Type} {p : α → Prop} {X' : α → World → Prop} (s : ∀ w, X w → ∃ b, p b ∧ X' b w) (h : ∀ b, p b → Pre n L (X' b) F) : Pre n L X F := fun a w k x => by
  obtain ⟨b, hb, hx⟩ := s w x
  exact h b hb a w k hx

theorem c_seq {c d : Code} (h : Pre n L X (c.wp P (Exit.then (d.wp P Q) Q))) : Pre n L X ((Code.seq c d).wp P Q) := fun a w k x => wp_seq (h a w k x)
theorem c_skip (h : Pre n L X (Q .normal)) : Pre n L X (Code.skip.wp P Q) := fun a w k x => wp_skip (h a w k x)
theorem c_block {id : Nat} {c : Code} (h : Pre n L X (c.wp P (Exit.inBlock id Q))) : Pre n L X ((Code.block id c).wp P Q) := fun a w k x => wp_block (h a w k x)
theorem c_exit {id : Nat} (h : Pre n L X (Q (.exit id))) : Pre n L X ((Code.exit id).wp P Q) := fun a w k x => wp_exit (h a w k x)
theorem c_ret (h : Pre n L X (Q .ret)) : Pre n L X (Code.ret.wp P Q) := fun a w k x => wp_ret (h a w k x)
theorem c_cond {c : Operand} {x y : Code} {b : Bool} (hc : ev L c = some (.bool b)) (ht : b = true → Pre n L X (x.wp P Q)) (hf : b = false → Pre n L X (y.wp P Q)) : Pre n L X ((Code.cond c x y).wp P Q) := fun a w k hx =>
  wp_cond_split (k.eval hc) (fun e => ht e a w k hx) (fun e => hf e a w k hx)
theorem c_true {c : Operand} {x y : Code} (hc : ev L c = some (.bool true)) (ht : Pre n L X (x.wp P Q)) : Pre n L X ((Code.cond c x y).wp P Q) := fun a w k hx => wp_cond_true (k.eval hc) (ht a w k hx)
theorem c_false {c : Operand} {x y : Code} (hc : ev L c = some (.bool false)) (ht : Pre n L X (y.wp P Q)) : Pre n L X ((Code.cond c x y).wp P Q) := fun a w k hx => wp_cond_false (k.eval hc) (ht a w k hx)

/- What comes behind. -/
theorem k_then {K : Act → World → Prop} (h : Pre n L X K) : Pre n L X (Exit.then K Q .normal) := h
theorem k_then_exit {K : Act → World → Prop} {id : Nat} (h : Pre n L X (Q (.exit id))) : Pre n L X (Exit.then K Q (.exit id)) := h
theorem k_then_ret {K : Act → World → Prop} (h : Pre n L X (Q .ret)) : Pre n L X (Exit.then K Q .ret) := h
theorem k_block {id : Nat} (h : Pre n L X (Q .normal)) : Pre n L X (Exit.inBlock id Q .normal) := h
theorem k_block_exit {id : Nat} (h : Pre n L X (Q .normal)) : Pre n L X (Exit.inBlock id Q (.exit id)) := fun a w k x => by
  show (if id = id then Q .normal a w else Q (.exit id) a w)
  rw [if_pos rfl]; exact h a w k x
theorem k_block_other {id id' : Nat} (hne : Nat.beq id' id = false) (h : Pre n L X (Q (.exit id'))) : Pre n L X (Exit.inBlock id Q (.exit id')) := fun a w k x => by
  show (if id' = id then Q .normal a w else Q (.exit id') a w)
  rw [if_neg (fun e => by subst e; simp at hne)]; exact h a w k x
theorem k_block_ret {id : Nat} (h : Pre n L X (Q .ret)) : Pre n L X (Exit.inBlock id Q .ret) := h

/-- The end of a round. -/
def Round {α : Type} (n : Nat) (μ : α → Nat) (Lv : α → Env) (Xv : α → World → Prop) (p : α → Prop) (m : Nat) : Act → World → Prop := fun a w => ∃ b, μ b < m ∧ p b ∧ Know n (Lv b) a ∧ Xv b w

/-- A loop: the invariant is a family of lists, predicates and facts. -/
theorem c_loop {α : Type} {c : Code} (Lv : α → Env) (Xv : α → World → Prop) (p : α → Prop) (μ : α → Nat) (b0 : α) (h0 : p b0) (hL : Sub (Lv b0) L) (hX : ∀ w, X w → Xv b0 w)
    (round : ∀ b, p b → Pre n (Lv b) (Xv b) (c.wp P (Exit.then (Round n μ Lv Xv p (μ b)) Q))) : Pre n L X ((Code.loop c).wp P Q) := by
  intro a w k x
  have key : ∀ (m : Nat) (b : α), μ b = m → p b → ∀ a w, Know n (Lv b) a → Xv b w → ∀ (fr : Frame) (t : List Item) (cs : List Frame),
      ∃ e a' w', Q e a' w' ∧ Arrives P (lone (fr.at a (.code c :: .inLoop c :: t)) cs w) fr t cs e a' w' := by
    intro m
    induction m using Nat.strongRecOn with
    | _ m ih =>
      intro b hm hp a w hk hx fr t cs
      obtain ⟨e, a₁, w₁, hq, harr⟩ := round b hp a w hk hx fr (.inLoop c :: t) cs
      cases e with
      | normal =>
        obtain ⟨b', hlt, hp', hk', hx'⟩ := hq
        obtain ⟨e₂, a₂, w₂, hq₂, harr₂⟩ := ih (μ b') (hm ▸ hlt) b' rfl hp' a₁ w₁ hk' hx' fr t cs
        exact ⟨e₂, a₂, w₂, hq₂, .of_steps (Steps.trans harr (.one step_inLoop)) harr₂⟩
      | exit id => exact ⟨_, a₁, w₁, hq, .pass (x := .inLoop c) rfl (fun _ _ => .inl (by simp)) harr⟩
      | goto l => exact ⟨_, a₁, w₁, hq, .pass (x := .inLoop c) rfl (fun _ _ => .inl (by simp)) harr⟩
      | ret => exact ⟨_, a₁, w₁, hq, .pass (x := .inLoop c) rfl (fun _ _ => .inl (by simp)) harr⟩
      | panic ch => exact ⟨_, a₁, w₁, hq, .pass (x := .inLoop c) rfl (fun _ _ => .inl (by simp)) harr⟩
      | outgrown => exact ⟨_, a₁, w₁, hq, .pass (x := .inLoop c) rfl (fun _ _ => .inl (by simp)) harr⟩
  intro fr t cs
  obtain ⟨e, a', w', hq, harr⟩ := key (μ b0) b0 rfl h0 a w (k.sub hL) (hX w x) fr t cs
  exact ⟨e, a', w', hq, .of_steps (.one step_loop) harr⟩
theorem k_round {α : Type} {μ : α → Nat} {Lv : α → Env} {Xv : α → World → Prop} {p : α → Prop} {m : Nat} (b : α) (hm : μ b < m) (hp : p b) (hL : Sub (Lv b) L) (hX : ∀ w, X w → Xv b w) : Pre n L X (Exit.then (Round n μ Lv Xv p m) Q .normal) :=
  fun a w k x => ⟨b, hm, hp, k.sub hL, hX w x⟩
/-- Ways meet again: what is kept is a family. -/
theorem c_join {α : Type} {F : Act → World → Prop} (Lv : α → Env) (Xv : α → World → Prop) (p : α → Prop) (b0 : α) (h0 : p b0) (hL : Sub (Lv b0) L) (hX : ∀ w, X w → Xv b0 w) (h : ∀ b, p b → Pre n (Lv b) (Xv b) F) : Pre n L X F :=
  fun a w k x => h b0 h0 a w (k.sub hL) (hX w x)
/-- A piece of code whose ways meet: the code's own post, then the rest once. -/
def Meet {α : Type} (n : Nat) (Lv : α → Env) (Xv : α → World → Prop) (p : α → Prop) : Act → World → Prop := fun a w => ∃ b, p b ∧ Know n (Lv b) a ∧ Xv b w
theorem c_seq_meet {α : Type} {c d : Code} (Lv : α → Env) (Xv : α → World → Prop) (p : α → Prop) (h1 : Pre n L X (c.wp P (Exit.then (Meet n Lv Xv p) Q))) (h2 : ∀ b, p b → Pre n (Lv b) (Xv b) (d.wp P Q)) : Pre n L X ((Code.seq c d).wp P Q) :=
  fun a w k x => wp_seq (wp_mono (h1 a w k x) (fun e a' w' hq => by
    cases e <;> first | (obtain ⟨b, hp, hk, hx⟩ := hq; exact h2 b hp a' w' hk hx) | exact hq))
theorem k_meet {α : Type} {Lv : α → Env} {Xv : α → World → Prop} {p : α → Prop} (b : α) (hp : p b) (hL : Sub (Lv b) L) (hX : ∀ w, X w → Xv b w) : Pre n L X (Exit.then (Meet n Lv Xv p) Q .normal) :=
  fun a w k x => ⟨b, hp, k.sub hL, hX w x⟩
end code

/-! ## Entering and leaving a function -/
/-- The parameters' slots. -/
def argEnv : Nat → List Value → Env
  | _, [] => []
  | i, v :: vs => (i, v) :: argEnv (i + 1) vs
theorem argEnv_get : ∀ (vs : List Value) (i k : Nat) (v : Value), look (argEnv i vs) k = some v → ∃ j, k = i + j ∧ vs[j]? = some v
  | [], _, _, _, h => by cases h
  | u :: vs, i, k, v, h => by
    simp only [argEnv, look] at h
    by_cases hi : i = k
    · subst hi; simp at h; subst h; exact ⟨0, rfl, rfl⟩
    · have : i.beq k = false := by rw [Bool.eq_false_iff]; intro h'; exact hi (Nat.eq_of_beq_eq_true h')
      rw [this] at h
      obtain ⟨j, e, hj⟩ := argEnv_get vs (i + 1) k v h
      exact ⟨j + 1, by omega, hj⟩
theorem enter {P : Program} {f n : Nat} {fn : Func} {c : Code} {vs : List Value} {w : World} {R : Ending → World → Prop} (X : World → Prop) (hf : P.funcs[f]? = some fn) (hb : fn.body = some c) (hnn : fn.ntmps = n) (hs : vs.length.ble n = true) (hX : X w)
    (h : Pre n (argEnv 0 vs) X (c.wp P (bodyPost P fn R))) : Calls P f vs.toArray w R := by
  subst hnn
  refine calls_of_wp hf hb (h _ w ⟨?_, rfl, fun i v hv => ?_⟩ hX)
  · have := Nat.le_of_ble_eq_true hs
    simp; omega
  · obtain ⟨j, e, hj⟩ := argEnv_get vs 0 i v hv
    have : i = j := by omega
    subst this
    have hlt : i < vs.length := (List.getElem?_eq_some_iff.1 hj).1
    simp [Array.getElem?_append, hlt]
    simpa [List.getElem?_eq_getElem hlt] using hj

/-- The results' values. -/
def resEv (L : Env) : List ResultVar → Option (List Value)
  | [] => some []
  | .tmp t :: rs => match look L t, resEv L rs with
    | some v, some vs => some (v :: vs)
    | _, _ => none
  | .cell _ _ :: _ => none
/-- One result. -/
def resOne (tmps : Array Value) : ResultVar → Sem Value
  | .tmp t => pure (tmps.getD t undef)
  | .cell x t => do loadVar t (← asAddr (tmps.getD x undef))
theorem results_of {P : Program} {n : Nat} {L : Env} {a : Act} {w : World} (k : Know n L a) : ∀ (rs : List ResultVar) (vs : List Value), resEv L rs = some vs →
    (rs.mapM (resOne a.tmps)).run P w = .ok vs w
  | [], vs, h => by cases h; rfl
  | .tmp t :: rs, vs, h => by
    simp only [resEv] at h
    cases ht : look L t with
    | none => rw [ht] at h; cases h
    | some v =>
      cases hr : resEv L rs with
      | none => rw [ht, hr] at h; cases h
      | some us =>
        rw [ht, hr] at h
        cases h
        have := k.get t v ht
        simp [List.mapM_cons, results_of k rs us hr, resOne, Array.getD_eq_getD_getElem?, this]
  | .cell _ _ :: _, _, h => by cases h
/-- The results as one value. -/
def asOne : List Value → Value
  | [v] => v
  | vs => .tuple vs.toArray
theorem run_results {P : Program} {n : Nat} {L : Env} {a : Act} {w : World} (k : Know n L a) {fn : Func} {rs : List ResultVar} {vs : List Value} (hr : fn.results = rs.toArray) (h : resEv L rs = some vs) :
    (results fn a.tmps).run P w = .ok (asOne vs) w := by
  have := results_of (P := P) (w := w) k rs vs h
  have e : (results fn a.tmps) = (do let vs ← fn.results.mapM (resOne a.tmps); pure (if h : vs.size = 1 then vs[0] else .tuple vs)) := rfl
  rw [e, hr]
  simp only [List.mapM_toArray, Sem.run_bind, Sem.run_map, this, Result.andThen_ok, Sem.run_pure]
  match vs with
  | [] => rfl
  | [v] => rfl
  | u :: v :: ws => simp [asOne]
section
variable {P : Program} {n : Nat} {L : Env} {X : World → Prop} {fn : Func} {R : Ending → World → Prop}
theorem r_one {t : Nat} {v : Value} (hr : fn.results = #[.tmp t]) (h : look L t = some v) (hR : ∀ w, X w → R (.returned v) w) : Pre n L X (bodyPost P fn R .ret) := fun a w k x =>
  ⟨k.defers, v, run_results (rs := [.tmp t]) (vs := [v]) k hr (by simp [resEv, h]), hR w x⟩
theorem r_many {rs : List ResultVar} {u v : Value} {vs : List Value} (hr : fn.results = rs.toArray) (h : resEv L rs = some (u :: v :: vs)) (hR : ∀ w, X w → R (.returned (.tuple (u :: v :: vs).toArray)) w) : Pre n L X (bodyPost P fn R .ret) := fun a w k x =>
  ⟨k.defers, _, run_results (rs := rs) k hr h, hR w x⟩
theorem r_none (hr : fn.results = #[]) (hR : ∀ w, X w → R (.returned (.tuple #[])) w) : Pre n L X (bodyPost P fn R .ret) := fun a w k x =>
  ⟨k.defers, _, run_results (rs := []) k hr rfl, hR w x⟩
theorem r_normal (h : Pre n L X (bodyPost P fn R .ret)) : Pre n L X (bodyPost P fn R .normal) := h
end
end Go.Sep
