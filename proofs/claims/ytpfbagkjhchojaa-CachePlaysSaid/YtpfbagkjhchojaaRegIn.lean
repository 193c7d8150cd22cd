
/- A drawn region inside a round that neither calls nor defers: walked outside the fence (wpAnyH), brought into it. Over any program. -/
import Derived.OrdersIn
import Derived.OrdersHeld
import Derived.Deep.RegionHeld
import Derived.TacticsIn
set_option linter.unusedVariables false
namespace Go.Proofs.Ytpfbagkjhchojaa

/-- Operations that neither call nor defer. -/
def calm (o : Oper) : Bool := match o.op with
  | .move _ | .load _ _ | .store _ _ _ | .binOp _ _ _ _ _ | .assign _ => true
  | _ => false

theorem bind_pure {α : Type} {P : Program} {m : Sem α} {f : α → Next} {w w' : World} {n : Next} (hr : Sem.run P (m >>= fun v => pure (f v)) w = .ok n w') : ∃ v, n = f v := by
  rw [Sem.run_bind] at hr
  cases hm : m.run P w with
  | ok v w1 =>
    rw [hm] at hr
    simp only [Result.andThen_ok, Sem.run_pure] at hr
    cases hr
    exact ⟨v, rfl⟩
  | halt e w1 =>
    rw [hm] at hr
    cases hr

theorem calm_next {P : Program} {o : Oper} (h : calm o = true) (ρ : Operand → Value) (w w' : World) (n : Next) (hr : (execOp ρ o).run P w = .ok n w') : (∃ v, n = .value v) ∨ n = .skip := by
  unfold calm at h
  unfold execOp at hr
  cases ho : o.op <;> simp only [ho] at h hr <;> first | (cases h; done) | skip
  · rw [Sem.run_pure] at hr; cases hr; exact .inl ⟨_, rfl⟩
  · rw [Sem.run_pure] at hr; cases hr; exact .inl ⟨_, rfl⟩
  · obtain ⟨v, hv⟩ := bind_pure hr; exact .inl ⟨v, hv⟩
  · obtain ⟨v, hv⟩ := bind_pure (f := fun _ => Next.skip) hr; exact .inr hv
  · obtain ⟨v, hv⟩ := bind_pure hr; exact .inl ⟨v, hv⟩

theorem calm_in {P : Program} {o : Oper} {a : Act} {w : World} {K : Act → World → Prop} {Q : Exit → Act → World → Prop} {l n : Nat} (h : calm o = true) (hw : o.wp P a w K Q) : o.wpIn (Fence.wide.inRound l) n P a w K Q := by
  refine ⟨fun _ _ => trivial, ?_⟩
  rw [show (Fence.wide.inRound l).round = some l from rfl, Oper.semAt_some l a.eval o (fun c hc => by unfold calm at h; rw [hc] at h; cases h)]
  unfold Oper.wp at hw
  cases hr : (execOp a.eval o).run P w with
  | ok nx w' =>
    rw [hr] at hw
    rcases calm_next h _ _ _ _ hr with ⟨v, rfl⟩ | rfl
    · exact hw
    · exact hw
  | halt e w' =>
    rw [hr] at hw
    cases e <;> first | exact hw | exact hw.elim

theorem calm_any {P : Program} {ops : Array Oper} {Q : Exit → Act → World → Prop} {md : Region.Mode} {l n : Nat} (hno : ¬ LetsOut Q) (h : ∀ (i : Nat) (o : Oper), ops[i]? = some o → calm o = true) : ∀ (fuel : Nat) (listed : Array Bool) (a : Act) (w : World), wpAny P md ops Q fuel listed a w → wpAnyIn (Fence.wide.inRound l) n P md ops Q fuel listed a w
  | 0, listed, a, w, hw => hw
  | fuel + 1, listed, a, w, hw => by
    refine ⟨hw.1, fun i hi => ?_⟩
    have h2 := hw.2 i hi
    unfold wpOp at h2
    unfold wpOpIn
    cases ho : ops[i]? with
    | none => rw [ho] at h2; exact calm_any hno h fuel _ _ _ h2
    | some o =>
      rw [ho] at h2
      simp only at h2 ⊢
      split
      · rename_i hq
        rw [if_pos hq] at h2
        rcases h2 with h2 | h2
        · exact Oper.wpIn_mono (fun a w hh => calm_any hno h fuel _ _ _ hh) (calm_in (h i o ho) h2)
        · exact absurd h2.2 hno
      · rename_i hq
        rw [if_neg hq] at h2
        exact ⟨fun _ _ => trivial, calm_any hno h fuel _ _ _ h2⟩

theorem region_in {P : Program} {ops : Array Oper} {Q : Exit → Act → World → Prop} {S : World → Prop} {l n id : Nat} {a : Act} {w : World} (hm : P.follows .mixedOrders = true) (hno : ¬ LetsOut Q) (h : ops.toList.all calm = true) (hS : S w.drew)
    (hw : S w.drew → wpAnyH P .any ops Q S ops.size (Array.replicate ops.size false) a w.drew) : (Code.region id ops true).wpIn (Fence.wide.inRound l) n P Q a w :=
  wpIn_region_any hm (calm_any hno (fun i o ho => List.all_eq_true.1 h o (Array.mem_toList_iff.2 (Array.mem_of_getElem? ho))) _ _ _ _ (wpAny_of_held _ _ _ _ (hw hS)))
theorem take1 {P : Program} {md : Region.Mode} {l : List Oper} {Q : Exit → Act → World → Prop} {S : World → Prop} {i : Nat} {oi : Oper} (v : Value) {fuel : Nat} {listed : Array Bool} {a : Act} {w : World} (hi : l[i]? = some oi)
    (hs : Region.noSelect l.toArray = true) (hf : Region.free md l.toArray listed i = true) (hr : (Region.ready md l.toArray listed).contains i = true)
    (hQ : ∀ c a w, Q (.panic c) (a.put oi.dst v) w → Q (.panic c) a w) (hw : Region.wanted oi (yielded l.toArray a.tmps) = true) (hS : S w) (hy : ∀ w, S w → (execOp a.eval oi).run P w = .ok (.value v) w)
    (h : wpAnyH P md l.toArray Q S fuel (listed.setIfInBounds i true) (a.put oi.dst v) w) : wpAnyH P md l.toArray Q S (fuel + 1) listed a w :=
  wpAnyH_take (by rw [List.getElem?_toArray]; exact hi) hs hf hr hQ (Or.inl ⟨hw, hy⟩) hS h
end Go.Proofs.Ytpfbagkjhchojaa
