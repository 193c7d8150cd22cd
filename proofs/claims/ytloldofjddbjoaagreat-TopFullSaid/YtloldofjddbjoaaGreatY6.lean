/- Part 6 of the proof: texts of my own, laid behind one another. No condition. -/
import Derived.Test.YtloldofjddbjoaaGreatY5
set_option linter.unusedVariables false
set_option linter.unusedSimpArgs false
set_option maxHeartbeats 8000000
set_option maxRecDepth 100000
namespace Go.Proofs.YtloldofjddbjoaaGreat
open Go.Sep Go.RowKit Tryz
theorem Inv0.pin {m : HM} (h : Inv0 m) {t : Nat} {c : Cl} (hc : m.cs[t]? = some c) (hpre : preC (t : Int) m.L c) {c' : Cl} (e : stepC (t : Int) m.L c = ((m.L.pin t).2, c', false, [])) (hph : c.ph = .rd 1 ∧ c'.ph = .rd (if (m.L.pin t).1 = 3 then 2 else 3) ∨ c.ph = .wr 0 ∧ c'.ph = .wr (if (m.L.pin t).1 = 3 then 1 else 2)) : Inv0 (m.client t) := by
  have hnh : ¬ holdP c.ph := by
    rintro (h1 | h1 | ⟨a, h1⟩) <;> rcases hph with ⟨h2, _⟩ | ⟨h2, _⟩ <;> rw [h2] at h1 <;> cases h1
  have h3 : c.ph ≠ .rd 3 := by rcases hph with ⟨h2, _⟩ | ⟨h2, _⟩ <;> rw [h2] <;> simp
  have h4 : c.ph ≠ .wr 2 := by rcases hph with ⟨h2, _⟩ | ⟨h2, _⟩ <;> rw [h2] <;> simp
  have h5 : c.ph ≠ .rd 2 ∧ c.ph ≠ .wr 1 := by rcases hph with ⟨h2, _⟩ | ⟨h2, _⟩ <;> rw [h2] <;> simp
  have h6 : ∀ a, c.ph ≠ .rm a := by intro a; rcases hph with ⟨h2, _⟩ | ⟨h2, _⟩ <;> rw [h2] <;> simp
  have hla : (m.L.pin (t : Int)).2.la = m.L.la := by unfold Lf.pin; split <;> (try split) <;> rfl
  have hcl : (m.L.pin (t : Int)).2.cl = m.L.cl := by unfold Lf.pin; split <;> (try split) <;> rfl
  refine h.mk' hc e hpre (fun u _ _ => pin_pres u m.L t) (h.lok.pin_ok t) (by rw [hla]; exact h.la) (by rw [hla]; exact h.sb) ?_ ?_ ?_ ?_ (fun u hu => .inr ⟨by rw [hla] at hu; exact hu, h.nh hc hnh u (by rw [hla] at hu; exact hu)⟩) (.inr (.inr ⟨hcl, h6⟩))
  · rcases h.lok.st3 with h0 | h0 | h0
    · have hp : m.L.pin (t : Int) = (3, { m.L with r := ⟨1, 0, 0, 1, true, false, nd0⟩, rt := some (t : Int) }) := by unfold Lf.pin; rw [if_pos h0]
      rw [hp] at hph ⊢
      rcases hph with ⟨_, h2⟩ | ⟨_, h2⟩ <;> (unfold CI; rw [h2]; exact ⟨rfl, rfl⟩)
    · have hp : m.L.pin (t : Int) = (2, { m.L with r := { m.L.r with pins := m.L.r.pins + 1, ref := true }, ld := m.L.ld ++ [(t : Int)] }) := by unfold Lf.pin; rw [if_neg (by omega), if_neg (by omega)]
      rw [hp] at hph ⊢
      rcases hph with ⟨_, h2⟩ | ⟨_, h2⟩ <;> (unfold CI; rw [h2]; exact .inr ⟨h0, List.mem_append_right _ (by simp)⟩)
    · have hp : m.L.pin (t : Int) = (1, { m.L with r := { m.L.r with pins := m.L.r.pins + 1, ref := true } }) := by unfold Lf.pin; rw [if_neg (by omega), if_pos h0]
      rw [hp] at hph ⊢
      rcases hph with ⟨_, h2⟩ | ⟨_, h2⟩ <;> (unfold CI; rw [h2]; exact .inl h0)
  · intro hs
    rcases h.lok.st3 with h0 | h0 | h0
    · exact absurd (by unfold Lf.pin; rw [if_pos h0]) hs
    · exact absurd (by unfold Lf.pin; rw [if_neg (by omega), if_neg (by omega)]; exact h0) hs
    · have hp : m.L.pin (t : Int) = (1, { m.L with r := { m.L.r with pins := m.L.r.pins + 1, ref := true } }) := by unfold Lf.pin; rw [if_neg (by omega), if_pos h0]
      rw [hp]; exact h.ld0 (by omega)
  · intro u hu
    rcases h.lok.st3 with h0 | h0 | h0
    · have hp : m.L.pin (t : Int) = (3, { m.L with r := ⟨1, 0, 0, 1, true, false, nd0⟩, rt := some (t : Int) }) := by unfold Lf.pin; rw [if_pos h0]
      rw [hp] at hu; exact .inr ⟨hu, h.nl hc h3 h4 u hu⟩
    · have hp : m.L.pin (t : Int) = (2, { m.L with r := { m.L.r with pins := m.L.r.pins + 1, ref := true }, ld := m.L.ld ++ [(t : Int)] }) := by unfold Lf.pin; rw [if_neg (by omega), if_neg (by omega)]
      rw [hp] at hu hph
      rcases List.mem_append.1 (show u ∈ m.L.ld ++ [(t : Int)] from hu) with hu | hu
      · exact .inr ⟨hu, h.nl hc h3 h4 u hu⟩
      · simp at hu
        exact .inl ⟨hu, by rcases hph with ⟨_, h2⟩ | ⟨_, h2⟩ <;> rw [h2] <;> simp⟩
    · have hp : m.L.pin (t : Int) = (1, { m.L with r := { m.L.r with pins := m.L.r.pins + 1, ref := true } }) := by unfold Lf.pin; rw [if_neg (by omega), if_pos h0]
      rw [hp] at hu; exact .inr ⟨hu, h.nl hc h3 h4 u hu⟩
  · intro hs
    rcases h.lok.st3 with h0 | h0 | h0
    · have hp : m.L.pin (t : Int) = (3, { m.L with r := ⟨1, 0, 0, 1, true, false, nd0⟩, rt := some (t : Int) }) := by unfold Lf.pin; rw [if_pos h0]
      rw [hp] at hph
      exact .inl (by rcases hph with ⟨_, h2⟩ | ⟨_, h2⟩ <;> rw [h2] <;> simp)
    · exact .inr ⟨h0, h5⟩
    · exact absurd hs (by unfold Lf.pin; rw [if_neg (by omega), if_pos h0]; show ¬ m.L.r.st = 1; omega)
theorem Inv0.fill {m : HM} (h : Inv0 m) {t : Nat} {c : Cl} (hc : m.cs[t]? = some c) (hpre : preC (t : Int) m.L c) {c' : Cl} (e : stepC (t : Int) m.L c = (m.L.fill, c', false, [])) (hr : m.L.rt = some (t : Int)) (h1 : m.L.r.st = 1) (hph : c.ph = .rd 2 ∧ c'.ph = .rd 3 ∨ c.ph = .wr 1 ∧ c'.ph = .wr 2) : Inv0 (m.client t) := by
  have hno : ∀ u, u ∉ Lt.tasks m.L.la := fun u hu => by have := h.hold2 hu; omega
  have h6 : ∀ a, c.ph ≠ .rm a := by intro a; rcases hph with ⟨h2, _⟩ | ⟨h2, _⟩ <;> rw [h2] <;> simp
  refine h.mk' hc e hpre (fun u hu h0 => ⟨fun _ => rfl, fun _ => .inr ⟨rfl, by rw [hr]; simpa using hu.symm⟩, fun _ h => .inl h, id, id, fun hw _ => absurd (wr_tasks h0 hw) (hno u), rfl⟩) (h.lok.fill_ok h1) h.la h.sb ?_ (fun _ => rfl) (fun u hu => by cases hu) (fun hs => by cases hs) (fun u hu => absurd hu (hno u)) (.inr (.inr ⟨rfl, h6⟩))
  rcases hph with ⟨_, h2⟩ | ⟨_, h2⟩ <;> (unfold CI; rw [h2]; exact .inl rfl)
theorem Inv0.take {m : HM} (h : Inv0 m) {t : Nat} {c : Cl} (hc : m.cs[t]? = some c) (hpre : preC (t : Int) m.L c) {c' : Cl} {w : Bool} (e : stepC (t : Int) m.L c = (m.L.take t w, c', false, [])) (h2 : m.L.r.st = 2) (hph : c.ph = .rd 3 ∧ c'.ph = .rd 5 ∧ w = false ∨ c.ph = .wr 2 ∧ c'.ph = .wr 3 ∧ w = true) : Inv0 (m.client t) := by
  obtain ⟨n, hn⟩ := h.la
  have hnh : ¬ holdP c.ph := by
    rintro (h1 | h1 | ⟨a, h1⟩) <;> rcases hph with ⟨h2, _⟩ | ⟨h2, _⟩ <;> rw [h2] at h1 <;> cases h1
  have h6 : ∀ a, c.ph ≠ .rm a := by intro a; rcases hph with ⟨h2, _⟩ | ⟨h2, _⟩ <;> rw [h2] <;> simp
  have hself := Lt.take_self (m := m.L.la) (t := (t : Int)) (by omega) (fun hu => h.nh hc hnh _ hu rfl) hn.toOk0 w
  refine h.mk' hc e hpre (fun u hu h0 => ⟨id, fun h => by omega, fun b hb => .inl (Lt.take_q hb), Lt.take_rd, Lt.take_wr (by omega), fun _ _ => ⟨rfl, rfl, rfl⟩, rfl⟩) (h.lok.la _) ⟨n + 1, Lt.take_ok hn t w⟩ (Lt.take_stable h.sb t w) ?_ (fun hs => h.ld0 (by omega)) (fun u hu => by rw [show (m.L.take (t : Int) w).ld = m.L.ld from rfl, h.ld0 (by omega)] at hu; cases hu) (fun hs => by have : m.L.r.st = 1 := hs; omega) (fun u hu => ?_) (.inr (.inr ⟨rfl, h6⟩))
  · rcases hph with ⟨_, h3, rfl⟩ | ⟨_, h3, rfl⟩
    · unfold CI; rw [h3]; exact ⟨h2, hself⟩
    · unfold CI; rw [h3]; exact ⟨h2, hself⟩
  · rcases Lt.take_tasks (by omega) hu with h3 | h3
    · exact .inl ⟨h3, by rcases hph with ⟨_, h3, _⟩ | ⟨_, h3, _⟩ <;> rw [h3] <;> simp [holdP]⟩
    · exact .inr ⟨h3, h.nh hc hnh u h3⟩
theorem Inv0.leave {m : HM} (h : Inv0 m) {t : Nat} {c : Cl} (hc : m.cs[t]? = some c) (hpre : preC (t : Int) m.L c) {b : Bool} {evs : List Evt} {L1 : Lf} (e : stepC (t : Int) m.L c = (L1.leave t, c.done, b, evs)) (h2 : m.L.r.st = 2) (hh : holdP c.ph) (hL : L1.Ok) (hs1 : L1.r.st = 2) (hla : L1.la = m.L.la) (hld : L1.ld = m.L.ld) (hs : L1.s = m.L.s) (hw : ∀ u : Int, u ≠ (t : Int) → m.L.la.wr = u → 0 ≤ u → L1.cl = m.L.cl ∧ L1.ct = m.L.ct ∧ L1.r.nd = m.L.r.nd) (hcl : L1.cl = 0 ∨ (L1.cl = m.L.cl ∧ ∀ a, c.ph ≠ .rm a)) : Inv0 (m.client t) := by
  obtain ⟨n, hn⟩ := h.la
  have hun : ∀ L : Lf, L.unpin.la = L.la ∧ L.unpin.ld = L.ld ∧ L.unpin.s = L.s ∧ L.unpin.cl = L.cl ∧ L.unpin.ct = L.ct ∧ L.unpin.r.nd = L.r.nd ∧ L.unpin.r.st = L.r.st := fun L => by
    unfold Lf.unpin; split <;> exact ⟨rfl, rfl, rfl, rfl, rfl, rfl, rfl⟩
  obtain ⟨a1, a2, a3, a4, a5, a6, a7⟩ := hun (L1.drop (t : Int))
  have l1 : (L1.leave (t : Int)).la = (Lt.dropL m.L.la t).2 := by show (L1.drop (t : Int)).unpin.la = _; rw [a1, ← hla]; rfl
  have l2 : (L1.leave (t : Int)).ld = m.L.ld := by show (L1.drop (t : Int)).unpin.ld = _; rw [a2, ← hld]; rfl
  have l3 : (L1.leave (t : Int)).r.st = 2 := by show (L1.drop (t : Int)).unpin.r.st = _; rw [a7]; exact hs1
  have l4 : (L1.leave (t : Int)).cl = L1.cl := by show (L1.drop (t : Int)).unpin.cl = _; rw [a4]; rfl
  refine h.mk' hc e hpre (fun u hu h0 => ⟨fun _ => l3, fun h => by omega, fun b hb => by rw [l1]; exact Lt.drop_q (by omega) (by omega) hu hb, fun hb => by rw [l1]; exact Lt.drop_rd (by omega) hu hb, fun hb => by rw [l1]; exact Lt.drop_wr (by omega) (by omega) hu hb, fun hb _ => ?_, ?_⟩) (Lf.Ok.unpin_ok (hL.la _)) (by rw [l1]; exact ⟨n, Lt.drop_ok hn t⟩) (by rw [l1]; exact Lt.drop_stable (by omega)) trivial (fun _ => by rw [l2]; exact h.ld0 (by omega)) (fun u hu => by rw [l2, h.ld0 (by omega)] at hu; cases hu) (fun hs => by rw [l3] at hs; cases hs) (fun u hu => by rw [l1] at hu; have := Lt.drop_tasks hn (by omega) hu; exact .inr ⟨this.2, this.1⟩) ?_
  · obtain ⟨b1, b2, b3⟩ := hw u hu hb h0
    exact ⟨by rw [l4, b1], by show (L1.drop (t : Int)).unpin.ct = _; rw [a5]; exact b2, by show (L1.drop (t : Int)).unpin.r.nd = _; rw [a6]; exact b3⟩
  · show (L1.drop (t : Int)).unpin.s = _; rw [a3]; exact hs
  · rcases hcl with h3 | ⟨h3, h4⟩
    · exact .inl (by rw [l4]; exact h3)
    · exact .inr (.inr ⟨by rw [l4]; exact h3, h4⟩)
def Small (L : Lf) (c : Cl) : Prop := c.ph = .wr 3 → L.r.st = 2 → fitL (lfd (lput (lfe L) (mOf c.op))) = true ∨ (L.s.left < 2 ∧ 2 ≤ L.r.nd.es.length)
theorem op_mem {c : Cl} (h : c.nx < c.ops.length) : c.op ∈ c.ops := List.mem_of_getElem? (op_at h)
theorem may_q {L : Lf} {t : Int} (h : L.mayH t = true) : ∀ b, (t, b) ∉ L.la.q := fun b hb => by
  unfold Lf.mayH at h
  simp only [Bool.and_eq_true, Bool.not_eq_true', decide_eq_false_iff_not] at h
  exact h.1 (List.mem_map.2 ⟨_, hb, rfl⟩)
theorem Inv0.pre {m : HM} (h : Inv0 m) {t : Nat} {c : Cl} (hc : m.cs[t]? = some c) (hm : mayC (t : Int) m.L c = true) : preC (t : Int) m.L c ∧ (c.ph ≠ .idle → m.L.mayH (t : Int) = true) := by
  have hop := h.ops c (List.mem_of_getElem? hc)
  have hci := h.ci t c hc
  have hmay : c.ph ≠ .idle → m.L.mayH (t : Int) = true := fun hn => by
    unfold mayC at hm
    split at hm
    · rename_i e; exact absurd e hn
    · exact hm
  refine ⟨?_, hmay⟩
  unfold CI at hci
  unfold preC
  split
  · rename_i e
    unfold mayC at hm
    rw [e] at hm
    have h1 : c.nx < c.ops.length := by
      have h2 : ¬ c.nx = c.ops.length := by simpa using hm
      have := hop.2.1; omega
    exact ⟨h1, hop.1 _ (op_mem h1)⟩
  · trivial
  · rename_i e; rw [e] at hci; exact hci
  · rename_i e; rw [e] at hci
    rcases hci with h1 | ⟨_, h1⟩
    · exact h1
    · exact absurd h1 (may_ld (hmay (by rw [e]; simp)))
  · rename_i e; rw [e] at hci
    refine ⟨hci.1, ?_⟩
    rcases hci.2 with h1 | h1
    · exact absurd h1 (may_q (hmay (by rw [e]; simp)) _)
    · unfold hasB; rw [decide_eq_true h1, Bool.or_true]
  · rename_i e1 e2 e3 e4 e; rw [e] at hci
    split at hci <;> simp_all
  · trivial
  · rename_i e; rw [e] at hci; exact hci
  · rename_i e; rw [e] at hci
    rcases hci with h1 | ⟨_, h1⟩
    · exact h1
    · exact absurd h1 (may_ld (hmay (by rw [e]; simp)))
  · rename_i e; rw [e] at hci
    refine ⟨hci.1, ?_, kOf_ck (hop.1 _ (op_mem (hop.2.2 (by rw [e]; simp)))).1⟩
    rcases hci.2 with h1 | h1
    · exact absurd h1 (may_q (hmay (by rw [e]; simp)) _)
    · exact h1
  · rename_i e1 e2 e3 e4 e; rw [e] at hci
    split at hci <;> simp_all
  · rename_i e; rw [e] at hci; exact ⟨hci.1, hci.2.2.1⟩
  · rename_i e; rw [e] at hci; exact ⟨hci.1, .inl hci.2.2.1, by have h9 : m.L.cl = 0 := hci.2.2.1; omega⟩
  · rename_i e; rw [e] at hci; exact ⟨hci.1, .inr hci.2.2.2.1, by have h9 : m.L.cl = 1 := hci.2.2.1; omega⟩
  · rename_i e; rw [e] at hci; exact ⟨hci.1, hci.2.2.1, hci.2.2.2.1, hci.2.2.2.2, by unfold hasB; rw [decide_eq_true hci.2.1]; rfl⟩
  · rename_i e1 e2 e3 e4 e; rw [e] at hci
    split at hci <;> simp_all
theorem Inv0.same {m : HM} (h : Inv0 m) {t : Nat} {c : Cl} (hc : m.cs[t]? = some c) (hpre : preC (t : Int) m.L c) {c' : Cl} {b : Bool} {evs : List Evt} (e : stepC (t : Int) m.L c = (m.L, c', b, evs)) (hci : CI (t : Int) m.L c') (h1 : c.ph ≠ .rd 3) (h2 : c.ph ≠ .wr 2) (h3 : c.ph ≠ .rd 2 ∧ c.ph ≠ .wr 1) (h4 : holdP c.ph → holdP c'.ph) (h5 : m.L.cl = 0 ∨ (∃ a, c'.ph = .rm a) ∨ ∀ a, c.ph ≠ .rm a) : Inv0 (m.client t) :=
  h.mk' hc e hpre (fun u _ _ => Pres.refl u m.L) h.lok h.la h.sb hci h.ld0 (fun u hu => .inr ⟨hu, h.nl hc h1 h2 u hu⟩) (fun hs => .inr ⟨hs, h3⟩) (fun u hu => by
    by_cases hh : holdP c.ph
    · by_cases e : u = (t : Int)
      · exact .inl ⟨e, h4 hh⟩
      · exact .inr ⟨hu, e⟩
    · exact .inr ⟨hu, h.nh hc hh u hu⟩) (by
    rcases h5 with h5 | h5 | h5
    · exact .inl h5
    · exact .inr (.inl h5)
    · exact .inr (.inr ⟨rfl, h5⟩))
theorem Inv0.claim {m : HM} (h : Inv0 m) {t : Nat} {c : Cl} (hc : m.cs[t]? = some c) (hpre : preC (t : Int) m.L c) {c' : Cl} (e : stepC (t : Int) m.L c = (m.L.claim t, c', false, [])) (hw : m.L.la.wr = (t : Int)) (hs : m.L.r.st = 2) (h1 : m.L.cl ≤ 1) (hci : CI (t : Int) (m.L.claim t) c') (hr : ∃ a, c.ph = .rm a) (hr' : ∃ a, c'.ph = .rm a) : Inv0 (m.client t) := by
  obtain ⟨a, hr⟩ := hr
  obtain ⟨a', hr'⟩ := hr'
  refine h.mk' hc e hpre (fun u hu _ => ⟨id, fun h => .inl ⟨h, id, rfl⟩, fun _ h => .inl h, id, id, fun h _ => absurd (by rw [← h, hw]) hu, rfl⟩) (h.lok.claim_ok t h1) h.la h.sb hci h.ld0 (fun u hu => .inr ⟨hu, h.nl hc (by rw [hr]; simp) (by rw [hr]; simp) u hu⟩) (fun hs => .inr ⟨hs, by rw [hr]; simp, by rw [hr]; simp⟩) (fun u hu => ?_) (.inr (.inl ⟨a', hr'⟩))
  by_cases e : u = (t : Int)
  · exact .inl ⟨e, .inr (.inr ⟨a', hr'⟩)⟩
  · exact .inr ⟨hu, e⟩
theorem Inv0.client {m : HM} (h : Inv0 m) {t : Nat} {c : Cl} (hc : m.cs[t]? = some c) (hpre : preC (t : Int) m.L c) (hS : Small m.L c) : Inv0 (m.client t) := by
  have hci := h.ci t c hc
  obtain ⟨ops, nx, ph⟩ := c
  cases ph with
  | idle =>
    have e : stepC (t : Int) m.L ⟨ops, nx, .idle⟩ = (m.L, ⟨ops, nx, if (Cl.op ⟨ops, nx, .idle⟩).kind = 4 then .rd 1 else .wr 0⟩, false, [evB t ⟨ops, nx, .idle⟩]) := rfl
    refine h.same hc hpre e ?_ (by simp) (by simp) (by simp) (by rintro (h1 | h1 | ⟨a, h1⟩) <;> cases h1) (.inr (.inr (by simp)))
    unfold CI
    by_cases h4 : (Cl.op ⟨ops, nx, .idle⟩).kind = 4
    · simp only [h4, if_true]
    · simp only [h4, if_false]
  | rd a =>
    match a, hpre with
    | 1, hp => exact h.pin hc (c := ⟨ops, nx, .rd 1⟩) hp (c' := ⟨ops, nx, .rd (if (m.L.pin t).1 = 3 then 2 else 3)⟩) rfl (.inl ⟨rfl, rfl⟩)
    | 2, hp => exact h.fill hc (c := ⟨ops, nx, .rd 2⟩) hp (c' := ⟨ops, nx, .rd 3⟩) rfl hp.1 hp.2 (.inl ⟨rfl, rfl⟩)
    | 3, hp => exact h.take hc (c := ⟨ops, nx, .rd 3⟩) hp (c' := ⟨ops, nx, .rd 5⟩) (w := false) rfl hp (.inl ⟨rfl, rfl, rfl⟩)
    | 5, hp => exact h.leave hc (c := ⟨ops, nx, .rd 5⟩) hp (L1 := m.L) rfl hp.1 (.inl rfl) h.lok hp.1 rfl rfl rfl (fun _ _ _ _ => ⟨rfl, rfl, rfl⟩) (.inr ⟨rfl, by simp⟩)
  | wr a =>
    match a, hpre with
    | 0, hp => exact h.pin hc (c := ⟨ops, nx, .wr 0⟩) hp (c' := ⟨ops, nx, .wr (if (m.L.pin t).1 = 3 then 1 else 2)⟩) rfl (.inr ⟨rfl, rfl⟩)
    | 1, hp => exact h.fill hc (c := ⟨ops, nx, .wr 1⟩) hp (c' := ⟨ops, nx, .wr 2⟩) rfl hp.1 hp.2 (.inr ⟨rfl, rfl⟩)
    | 2, hp => exact h.take hc (c := ⟨ops, nx, .wr 2⟩) hp (c' := ⟨ops, nx, .wr 3⟩) (w := true) rfl hp (.inr ⟨rfl, rfl, rfl⟩)
    | 3, hp =>
      by_cases hf : fitL (lfd (lput (lfe m.L) (mOf (Cl.op ⟨ops, nx, .wr 3⟩)))) = true
      · have e : stepC (t : Int) m.L ⟨ops, nx, .wr 3⟩ = ((m.L.setN (lput (lfe m.L) (mOf (Cl.op ⟨ops, nx, .wr 3⟩)))).leave t, Cl.done ⟨ops, nx, .wr 3⟩, true, [evD t ⟨ops, nx, .wr 3⟩ ans0]) := by
          show (if fitL (lfd (lput (lfe m.L) (mOf (Cl.op ⟨ops, nx, .wr 3⟩)))) = true then _ else _) = _
          rw [if_pos hf]
        exact h.leave hc hp e hp.1 (.inr (.inl I)) (h.lok.setN_ok hp.1 (lck_rise (fit_parts hf).1) hf) hp.1 I I I (fun u hu hw _ => absurd (by rw [← hw]; exact hp.2.1) hu) (.inr ⟨rfl, by simp⟩)
      · have e : stepC (t : Int) m.L ⟨ops, nx, .wr 3⟩ = (m.L, ⟨ops, nx, .rm 1⟩, false, []) := by
          show (if fitL (lfd (lput (lfe m.L) (mOf (Cl.op ⟨ops, nx, .wr 3⟩)))) = true then _ else _) = _
          rw [if_neg hf]
        have hs := (hS rfl hp.1).resolve_left hf
        refine h.same hc hp e ⟨hp.1, hp.2.1, hs.2, ?_, hs.1⟩ (by simp) (by simp) (by simp) (fun _ => .inr (.inr ⟨1, rfl⟩)) (.inr (.inl ⟨1, rfl⟩))
        refine h.cl0 (fun v d hd a ha => ?_)
        have hv := h.ci v d hd
        have hw : m.L.la.wr = (v : Int) := by
          unfold CI at hv; rw [ha] at hv
          split at hv <;> first | exact hv.2.1 | (exact hv.elim) | simp_all
        have : v = t := by have := hp.2.1; omega
        subst this
        rw [hc] at hd; cases hd; cases ha
  | rm a =>
    match a, hpre with
    | 1, hp => exact h.same hc (c := ⟨ops, nx, .rm 1⟩) hp (c' := ⟨ops, nx, .rm 6⟩) rfl ⟨hci.1, hci.2.1, hci.2.2.2.1, hci.2.2.2.2⟩ (by simp) (by simp) (by simp) (fun _ => .inr (.inr ⟨6, rfl⟩)) (.inr (.inl ⟨6, rfl⟩))
    | 6, hp => exact h.claim hc (c := ⟨ops, nx, .rm 6⟩) hp (c' := ⟨ops, nx, .rm 7⟩) rfl hci.2.1 hp.1 hp.2.2 ⟨hci.1, hci.2.1, by show m.L.cl + 1 = 1; rw [hci.2.2.1], rfl, hci.2.2.2⟩ ⟨6, rfl⟩ ⟨7, rfl⟩
    | 7, hp => exact h.claim hc (c := ⟨ops, nx, .rm 7⟩) hp (c' := ⟨ops, nx, .rm 10⟩) rfl hci.2.1 hp.1 hp.2.2 ⟨hci.1, hci.2.1, by show m.L.cl + 1 = 2; rw [hci.2.2.1], rfl, hci.2.2.2.2⟩ ⟨7, rfl⟩ ⟨10, rfl⟩
    | 10, hp => exact h.leave hc (c := ⟨ops, nx, .rm 10⟩) hp (L1 := m.L.give) rfl hp.1 (.inr (.inr ⟨10, rfl⟩)) h.lok.give_ok hp.1 rfl rfl rfl (fun u hu hw _ => absurd (by rw [← hw]; exact hci.2.1) hu) (.inl rfl)
structure Inv (m : HM) : Prop extends Inv0 m where
  tn : m.T.n = m.cs.length + (m.nf + 1)
  tl : m.T.st.length = m.T.n
  told : ∀ i, i < m.T.n → m.T.st.getD i 0 = stI m i
theorem tellT_st (m : HM) (i : Nat) : ∀ (k : Nat) (T : Sc.Tab), k ≤ T.n → T.st.length = T.n → (tellT m k T).st.length = T.n ∧ (tellT m k T).st.getD i 0 = if i < k then (if T.st.getD i 0 = 2 then 2 else stI m i) else T.st.getD i 0
  | 0, T, _, hl => ⟨hl, by simp [tellT]⟩
  | k + 1, T, hk, hl => by
    obtain ⟨h1, h2⟩ := tellT_st m i k T (by omega) hl
    have hn := tellT_n m k T
    show (Sc.turnM (tellT m k T) (k : Int) (stI m k)).st.length = _ ∧ (Sc.turnM (tellT m k T) (k : Int) (stI m k)).st.getD i 0 = _
    unfold Sc.turnM
    split
    · rename_i hc
      refine ⟨by show ((tellT m k T).st.set _ _).length = _; rw [List.length_set]; exact h1, ?_⟩
      show ((tellT m k T).st.set (k : Int).toNat (stI m k)).getD i 0 = _
      rw [Sc.getD_set, Int.toNat_natCast, h1]
      by_cases e : k = i
      · subst e
        rw [if_pos ⟨rfl, by omega⟩, if_pos (by omega)]
        have hc2 := hc.2.2
        rw [Int.toNat_natCast, h2, if_neg (by omega)] at hc2
        rw [if_neg hc2]
      · rw [if_neg (by simp [e]), h2]
        by_cases e2 : i < k
        · rw [if_pos e2, if_pos (show i < k + 1 by omega)]
        · rw [if_neg e2, if_neg (show ¬ i < k + 1 by omega)]
    · rename_i hc
      refine ⟨h1, ?_⟩
      rw [h2]
      by_cases e : k = i
      · subst e
        rw [if_neg (by omega), if_pos (by omega)]
        have h3 : (tellT m k T).st.getD k 0 = 2 := Classical.byContradiction (fun h3 => hc ⟨by omega, by rw [hn]; omega, by rw [Int.toNat_natCast]; exact h3⟩)
        rw [h2, if_neg (by omega)] at h3
        rw [h3, if_pos rfl]
      · by_cases e2 : i < k
        · rw [if_pos e2, if_pos (show i < k + 1 by omega)]
        · rw [if_neg e2, if_neg (show ¬ i < k + 1 by omega)]
theorem pick_st (T : Sc.Tab) (p : Int) : (Sc.pickM T p).st = T.st := by
  unfold Sc.pickM
  split
  · rfl
  · show (Sc.stepsM _ _ _).st = _
    exact Sc.steps_st _ _ _
theorem stI_may {m : HM} {i : Nat} (h : stI m i = 0) : ∃ c, m.cs[i]? = some c ∧ mayC (i : Int) m.L c = true := by
  unfold stI at h
  split at h
  · rename_i hm
    unfold mayI at hm
    cases hc : m.cs[i]? with
    | none => rw [hc] at hm; cases hm
    | some c => rw [hc] at hm; exact ⟨c, rfl, hm⟩
  · split at h
    · split at h <;> cases h
    · cases h
theorem Inv.run {m : HM} (h : Inv m) {t : Nat} (ht : t ∈ Sc.runM m.T) : ∃ c, m.cs[t]? = some c ∧ preC (t : Int) m.L c ∧ (c.ph ≠ .idle → m.L.mayH (t : Int) = true) := by
  have hlt := Sc.runM_lt ht
  have h0 : m.T.st.getD t 0 = 0 := by
    unfold Sc.runM at ht
    simpa using (List.mem_filter.1 ht).2
  rw [h.told t hlt] at h0
  obtain ⟨c, hc, hm⟩ := stI_may h0
  exact ⟨c, hc, h.toInv0.pre hc hm⟩
theorem Inv.preH {m : HM} (h : Inv m) : m.Pre := fun t ht => h.run ht
theorem client_cs {m : HM} {t : Nat} {c : Cl} (hc : m.cs[t]? = some c) : (m.client t).cs = m.cs.set t (stepC (t : Int) m.L c).2.1 := by unfold HM.client; rw [hc]
theorem client_nf (m : HM) (t : Nat) : (m.client t).nf = m.nf := by unfold HM.client; split <;> rfl
theorem Inv.tell {m : HM} (h : Inv m) {t : Nat} {c : Cl} (hc : m.cs[t]? = some c) (h0 : m.T.st.getD t 0 = 0) (hi : Inv0 (m.client t)) (p : Int) (k : Nat) : Inv { m.client t with T := tellT (m.client t) m.T.n (Sc.pickM m.T p), pk := k } := by
  have hst := pick_st m.T p
  have hn := Sc.pick_n m.T p
  have hl : (Sc.pickM m.T p).st.length = (Sc.pickM m.T p).n := by rw [hst, hn]; exact h.tl
  refine ⟨⟨hi.ops, hi.lok, hi.la, hi.sb, hi.n8, hi.ci, hi.ld0, hi.ldc, hi.ldr, hi.tk, hi.cl0⟩, ?_, ?_, fun i hin => ?_⟩
  · show (tellT _ _ _).n = (m.client t).cs.length + _
    rw [tellT_n, hn, h.tn, client_cs hc, List.length_set, client_nf]
  · show (tellT _ _ _).st.length = (tellT _ _ _).n
    rw [tellT_n, (tellT_st (m.client t) 0 m.T.n (Sc.pickM m.T p) (by rw [hn]; exact Nat.le_refl _) hl).1]
  · have hin2 : i < m.T.n := by
      have : i < (tellT (m.client t) m.T.n (Sc.pickM m.T p)).n := hin
      rw [tellT_n, hn] at this; exact this
    show (tellT _ _ _).st.getD i 0 = stI (m.client t) i
    rw [(tellT_st (m.client t) i m.T.n (Sc.pickM m.T p) (by rw [hn]; exact Nat.le_refl _) hl).2, if_pos hin2, hst]
    split
    · rename_i h2
      have ht : i ≠ t := fun e => by subst e; rw [h0] at h2; cases h2
      rw [h.told i hin2] at h2
      unfold stI at h2
      split at h2
      · cases h2
      · split at h2
        · rename_i d hd
          split at h2
          · rename_i hen
            have hd2 : (m.client t).cs[i]? = some d := by rw [client_cs hc, List.getElem?_set_ne (Ne.symm ht)]; exact hd
            have hph : d.ph = .idle ∧ d.nx = d.ops.length := by unfold Cl.ended at hen; simpa using hen
            unfold stI
            have hmi : mayI (m.client t) i = false := by
              unfold mayI; rw [hd2]; show mayC _ _ d = false
              unfold mayC; rw [hph.1]; simp [hph.2]
            rw [hmi, if_neg (by decide), hd2]
            simp only
            rw [if_pos hen]
          · cases h2
        · cases h2
    · rfl
theorem stepH_cases {m : HM} (h : Inv m) (p : Int) : (stepH m p = m ∧ Sc.runM m.T = []) ∨ ∃ (t : Nat) (c : Cl), m.cs[t]? = some c ∧ m.T.st.getD t 0 = 0 ∧ preC (t : Int) m.L c ∧ stepH m p = { m.client t with T := tellT (m.client t) m.T.n (Sc.pickM m.T p), pk := m.pk + 1 } := by
  unfold stepH
  split
  · rename_i hr; exact .inl ⟨rfl, hr⟩
  · rename_i hr
    have hmem := Sc.who_mem p hr
    obtain ⟨c, hc, hpre, _⟩ := h.run hmem
    refine .inr ⟨Sc.whoM m.T p, c, hc, ?_, hpre, ?_⟩
    · unfold Sc.runM at hmem
      simpa using (List.mem_filter.1 hmem).2
    · have e : ({ m with T := Sc.pickM m.T p, pk := m.pk + 1 } : HM).client (Sc.whoM m.T p) = { m.client (Sc.whoM m.T p) with T := Sc.pickM m.T p, pk := m.pk + 1 } := by
        unfold HM.client
        show (match m.cs[Sc.whoM m.T p]? with | some c => _ | none => _) = _
        rw [hc]
      rw [e]
      have e2 : ∀ k, tellT { m.client (Sc.whoM m.T p) with T := Sc.pickM m.T p, pk := m.pk + 1 } k (Sc.pickM m.T p) = tellT (m.client (Sc.whoM m.T p)) k (Sc.pickM m.T p) := fun k => by
        induction k with
        | zero => rfl
        | succ k ih => show Sc.turnM (tellT _ k _) _ _ = Sc.turnM (tellT _ k _) _ _; rw [ih]; rfl
      rw [e2]
def rk : Ph → Nat
  | .idle => 0
  | .rd 1 => 8
  | .rd 2 => 7
  | .rd 3 => 6
  | .rd _ => 5
  | .wr 0 => 8
  | .wr 1 => 7
  | .wr 2 => 6
  | .wr _ => 5
  | .rm 1 => 4
  | .rm 6 => 3
  | .rm 7 => 2
  | .rm _ => 1
def muC (c : Cl) : Nat := if c.ph = .idle then 9 * (c.ops.length - c.nx) else 9 * (c.ops.length - c.nx - 1) + rk c.ph
def mu (m : HM) : Nat := (m.cs.map muC).sum
theorem stepC_mu {t : Int} {L : Lf} {c : Cl} (hp : preC t L c) (hn : c.ph ≠ .idle → c.nx < c.ops.length) : muC (stepC t L c).2.1 < muC c := by
  obtain ⟨ops, nx, ph⟩ := c
  have hr : ∀ a b : Nat, rk (.rd (if a = 3 then 2 else 3)) < 8 ∧ rk (.wr (if a = 3 then 1 else 2)) < 8 := fun a b => by
    constructor <;> split <;> decide
  have hd : ∀ k : Nat, 0 < k → nx < ops.length → 9 * (ops.length - (nx + 1)) < 9 * (ops.length - nx - 1) + k := fun k hk h => by omega
  cases ph with
  | idle =>
    obtain ⟨h1, _⟩ := hp
    have h1 : nx < ops.length := h1
    show muC ⟨ops, nx, if (Cl.op ⟨ops, nx, .idle⟩).kind = 4 then .rd 1 else .wr 0⟩ < muC ⟨ops, nx, .idle⟩
    unfold muC
    by_cases h4 : (Cl.op ⟨ops, nx, .idle⟩).kind = 4
    · simp only [h4, if_true]; simp [rk]; omega
    · simp only [h4, if_false]; simp [rk]; omega
  | rd a =>
    have h1 : nx < ops.length := hn (by simp)
    match a, hp with
    | 1, _ =>
      show muC ⟨ops, nx, .rd (if (L.pin t).1 = 3 then 2 else 3)⟩ < _
      unfold muC
      by_cases h3 : (L.pin t).1 = 3 <;> simp [h3, rk]
    | 2, _ => show muC ⟨ops, nx, .rd 3⟩ < _; unfold muC; simp [rk]
    | 3, _ => show muC ⟨ops, nx, .rd 5⟩ < _; unfold muC; simp [rk]
    | 5, _ => show muC ⟨ops, nx + 1, .idle⟩ < _; unfold muC; simp [rk]; omega
  | wr a =>
    have h1 : nx < ops.length := hn (by simp)
    match a, hp with
    | 0, _ =>
      show muC ⟨ops, nx, .wr (if (L.pin t).1 = 3 then 1 else 2)⟩ < _
      unfold muC
      by_cases h3 : (L.pin t).1 = 3 <;> simp [h3, rk]
    | 1, _ => show muC ⟨ops, nx, .wr 2⟩ < _; unfold muC; simp [rk]
    | 2, _ => show muC ⟨ops, nx, .wr 3⟩ < _; unfold muC; simp [rk]
    | 3, _ =>
      show muC (if fitL (lfd (lput (lfe L) (mOf (Cl.op ⟨ops, nx, .wr 3⟩)))) = true then _ else _ : Lf × Cl × Bool × List Evt).2.1 < _
      split
      · show muC ⟨ops, nx + 1, .idle⟩ < _; unfold muC; simp [rk]; omega
      · show muC ⟨ops, nx, .rm 1⟩ < _; unfold muC; simp [rk]
  | rm a =>
    have h1 : nx < ops.length := hn (by simp)
    match a, hp with
    | 1, _ => show muC ⟨ops, nx, .rm 6⟩ < _; unfold muC; simp [rk]
    | 6, _ => show muC ⟨ops, nx, .rm 7⟩ < _; unfold muC; simp [rk]
    | 7, _ => show muC ⟨ops, nx, .rm 10⟩ < _; unfold muC; simp [rk]
    | 10, _ => show muC ⟨ops, nx + 1, .idle⟩ < _; unfold muC; simp [rk]; omega
theorem sum_set : ∀ {l : List Cl} {t : Nat} {c c' : Cl}, l[t]? = some c → muC c' < muC c → ((l.set t c').map muC).sum < (l.map muC).sum
  | [], t, c, c', h, _ => by simp at h
  | x :: l, 0, c, c', h, hl => by simp at h; subst h; simp [hl]
  | x :: l, t + 1, c, c', h, hl => by
    have := sum_set (l := l) (t := t) (c := c) (c' := c') (by simpa using h) hl
    simpa using this
theorem Inv0.goes {m : HM} (h : Inv0 m) (he : m.cs.all Cl.ended = false) : ∃ (t : Nat) (c : Cl), m.cs[t]? = some c ∧ mayC (t : Int) m.L c = true := by
  obtain ⟨c, hcm, hce⟩ := List.all_eq_false.1 he
  obtain ⟨t, hc⟩ := List.mem_iff_getElem?.1 hcm
  have h8 : ∀ (v : Nat) (d : Cl), m.cs[v]? = some d → tkB (v : Int) = true := fun v d hd => by
    have := (List.getElem?_eq_some_iff.1 hd).1
    have := h.n8
    unfold tkB
    rw [decide_eq_true (show (0 : Int) ≤ (v : Int) by omega), decide_eq_true (show (v : Int) < 8 by omega)]; rfl
  have hmay : ∀ (v : Nat) (d : Cl), m.cs[v]? = some d → d.ph ≠ .idle → (v : Int) ∉ m.L.ld → (v : Int) ∉ m.L.la.q.map Prod.fst → mayC (v : Int) m.L d = true := fun v d hd hp h1 h2 => by
    have : mayC (v : Int) m.L d = m.L.mayH (v : Int) := by
      unfold mayC; split
      · rename_i e; exact absurd e hp
      · rfl
    rw [this]
    unfold Lf.mayH
    rw [Lf.may_iff, decide_eq_false h1, decide_eq_false h2, h8 v d hd]; rfl
  by_cases hi : c.ph = .idle
  · refine ⟨t, c, hc, ?_⟩
    unfold mayC; rw [hi]
    unfold Cl.ended at hce
    rw [hi] at hce
    simpa using hce
  · have hq0 : m.L.r.st ≠ 2 → m.L.la.q.map Prod.fst = [] := fun h2 => by
      cases hq : m.L.la.q with
      | nil => rfl
      | cons x q => exact absurd (h.hold2 (u := x.1) (by unfold Lt.tasks; rw [hq]; simp)) h2
    rcases h.lok.st3 with h0 | h0 | h0
    · exact ⟨t, c, hc, hmay t c hc hi (by rw [h.ld0 (by omega)]; simp) (by rw [hq0 (by omega)]; simp)⟩
    · obtain ⟨v, d, hd, hp⟩ := h.ldr h0
      refine ⟨v, d, hd, hmay v d hd (by rcases hp with hp | hp <;> rw [hp] <;> simp) (fun hl => ?_) (by rw [hq0 (by omega)]; simp)⟩
      exact h.nl hd (by rcases hp with hp | hp <;> rw [hp] <;> simp) (by rcases hp with hp | hp <;> rw [hp] <;> simp) _ hl rfl
    · by_cases hq : (t : Int) ∈ m.L.la.q.map Prod.fst
      · obtain ⟨n, hn⟩ := h.la
        have hnd := hn.nd
        obtain ⟨x, q, hxq⟩ : ∃ x q, m.L.la.q = x :: q := by
          cases hq2 : m.L.la.q with
          | nil => rw [hq2] at hq; simp at hq
          | cons x q => exact ⟨x, q, rfl⟩
        have hst := h.sb x q hxq
        have hu : ∃ u, u ∈ Lt.tasks m.L.la ∧ u ∉ m.L.la.q.map Prod.fst := by
          unfold Lt.tasks at hnd ⊢
          by_cases hw : 0 ≤ m.L.la.wr
          · rw [if_pos hw] at hnd ⊢
            refine ⟨m.L.la.wr, by simp, fun hm => ?_⟩
            have := (List.nodup_cons.1 hnd).1
            exact this (List.mem_append_right m.L.la.rd hm)
          · rw [if_neg hw] at hnd ⊢
            have hw1 : m.L.la.wr = -1 := by have := hn.wr; omega
            have hrd : m.L.la.rd ≠ [] := fun hr => by
              have : Lt.openB m.L.la x.2 = true := Lt.openB_iff.2 ⟨hw1, fun _ => hr⟩
              rw [hst] at this; cases this
            obtain ⟨u, us, hr⟩ := List.exists_cons_of_ne_nil hrd
            refine ⟨u, by rw [hr]; simp, fun hm => ?_⟩
            rw [List.nil_append, List.nodup_append] at hnd
            exact hnd.2.2 u (by rw [hr]; simp) u hm I
        obtain ⟨u, hu1, hu2⟩ := hu
        obtain ⟨v, d, rfl, hd, hp⟩ := h.tk u hu1
        exact ⟨v, d, hd, hmay v d hd (by rcases hp with hp | hp | ⟨a, hp⟩ <;> rw [hp] <;> simp) (by rw [h.ld0 (by omega)]; simp) hu2⟩
      · exact ⟨t, c, hc, hmay t c hc hi (by rw [h.ld0 (by omega)]; simp) hq⟩
theorem Inv.step {m : HM} (h : Inv m) (p : Int) (hS : ∀ c ∈ m.cs, Small m.L c) : Inv (stepH m p) ∧ mu (stepH m p) ≤ mu m ∧ (m.cs.all Cl.ended = false → mu (stepH m p) < mu m) ∧ (stepH m p).pk ≤ m.pk + 1 := by
  rcases stepH_cases h p with ⟨e, hr⟩ | ⟨t, c, hc, h0, hpre, e⟩
  · rw [e]
    refine ⟨h, Nat.le_refl _, fun he => ?_, Nat.le_succ _⟩
    obtain ⟨t, c, hc, hm⟩ := h.toInv0.goes he
    have hlt : t < m.T.n := by have := (List.getElem?_eq_some_iff.1 hc).1; have := h.tn; omega
    have hmem : t ∈ Sc.runM m.T := by
      unfold Sc.runM
      refine List.mem_filter.2 ⟨List.mem_range.2 hlt, ?_⟩
      rw [h.told t hlt]
      unfold stI
      rw [if_pos (by unfold mayI; rw [hc]; exact hm)]; rfl
    rw [hr] at hmem; cases hmem
  · have hi := h.toInv0.client hc hpre (hS c (List.mem_of_getElem? hc))
    have hmu : mu (m.client t) < mu m := by
      unfold mu
      rw [client_cs hc]
      exact sum_set hc (stepC_mu hpre (h.ops c (List.mem_of_getElem? hc)).2.2)
    rw [e]
    exact ⟨h.tell hc h0 hi p _, Nat.le_of_lt hmu, fun _ => hmu, Nat.le_refl _⟩
theorem hmS_inv {nb nf fl : Nat} {ls : List (List Opn)} (h1 : 1 ≤ nb) (h5 : 5 ≤ nf) (h8 : ls.length + (fl + 1) ≤ 8) (hok : ∀ l ∈ ls, ∀ o ∈ l, o.Ok ∧ (o.kind = 1 ∨ o.kind = 3 ∨ o.kind = 4)) : Inv (hmS nb nf fl ls) := by
  have hcs : ∀ (t : Nat) (c : Cl), (ls.map cl0)[t]? = some c → ∃ l ∈ ls, c = cl0 l := fun t c hc => by
    rw [List.getElem?_map] at hc
    cases hx : ls[t]? with
    | none => rw [hx] at hc; cases hc
    | some l => rw [hx] at hc; cases hc; exact ⟨l, List.mem_of_getElem? hx, rfl⟩
  have hnl : (Sc.newM (ls.length + (fl + 1))).st.length = (Sc.newM (ls.length + (fl + 1))).n := List.length_replicate ..
  refine ⟨⟨fun c hc => ?_, lf0_ok h1 h5, ⟨0, Lt.new_ok⟩, fun w q h => (by cases h), ?_, fun t c hc => ?_, fun _ => rfl, fun u hu => (by cases hu), fun hs => (by cases hs), fun u hu => (by cases hu), fun _ => rfl⟩, ?_, ?_, fun i hi => ?_⟩
  · obtain ⟨l, hl, rfl⟩ := List.mem_map.1 hc
    exact ⟨fun o ho => hok l hl o ho, Nat.zero_le _, fun h => absurd I h⟩
  · show (ls.map cl0).length ≤ 8; rw [List.length_map]; omega
  · obtain ⟨l, _, rfl⟩ := hcs t c hc
    trivial
  · show (tellT _ _ _).n = (ls.map cl0).length + _; rw [tellT_n, List.length_map]; rfl
  · show (tellT _ _ _).st.length = (tellT _ _ _).n
    rw [tellT_n]; exact (tellT_st (hm0 nb nf fl ls) 0 _ _ (Nat.le_refl _) hnl).1
  · have hi2 : i < ls.length + (fl + 1) := by
      have : i < (tellT (hm0 nb nf fl ls) (ls.length + (fl + 1)) (Sc.newM (ls.length + (fl + 1)))).n := hi
      rw [tellT_n] at this; exact this
    show (tellT _ _ _).st.getD i 0 = stI (hm0 nb nf fl ls) i
    rw [(tellT_st (hm0 nb nf fl ls) i (ls.length + (fl + 1)) (Sc.newM (ls.length + (fl + 1))) (Nat.le_refl _) hnl).2, if_pos hi2]
    rw [if_neg]
    show ¬ (List.replicate _ (0 : Int)).getD i 0 = 2
    rw [List.getD_eq_getElem?_getD, List.getElem?_replicate]
    split <;> decide
theorem mu_le : ∀ {ls : List (List Opn)}, (∀ l ∈ ls, l.length ≤ 24) → ((ls.map cl0).map muC).sum ≤ 216 * ls.length
  | [], _ => by simp
  | l :: ls, h => by
    have ih := mu_le (ls := ls) (fun x hx => h x (List.mem_cons_of_mem _ hx))
    have h1 := h l (List.mem_cons_self ..)
    have e : muC (cl0 l) = 9 * l.length := by unfold muC cl0; simp
    simp only [List.map_cons, List.sum_cons, List.length_cons, e]
    omega
theorem mapL_at {L : Lf} (h : L.r.st = 2) : mapL L = lfe L := by unfold mapL ndF lfe; rw [if_pos h]
theorem mapL_no {L : Lf} (h : L.r.st ≠ 2) : mapL L = [] := by unfold mapL ndF; rw [if_neg h]; rfl
theorem unpin_map (L : Lf) : mapL L.unpin = mapL L := by unfold Lf.unpin; split <;> rfl
theorem leave_map (L : Lf) (t : Int) : mapL (L.leave t) = mapL L := (unpin_map _).trans rfl
theorem map_step {t : Int} {L : Lf} {c : Cl} (hL : L.Ok) (hp : preC t L c) : (c.ph = .wr 3 ∧ L.r.st = 2 ∧ fitL (lfd (lput (lfe L) (mOf c.op))) = true ∧ mapL (stepC t L c).1 = lput (mapL L) (mOf c.op) ∧ (stepC t L c).2.2 = (true, [evD t c ans0]) ∧ (stepC t L c).2.1 = c.done) ∨ (mapL (stepC t L c).1 = mapL L ∧ (c.ph = .wr 3 → L.r.st = 2 ∧ fitL (lfd (lput (lfe L) (mOf c.op))) = false)) := by
  obtain ⟨ops, nx, ph⟩ := c
  have hpin : mapL (L.pin t).2 = mapL L := by
    unfold Lf.pin
    split
    · rename_i h0
      have e1 := mapL_no (L := L) (by rw [h0]; decide)
      rw [e1]
      exact mapL_no (by show (1 : Int) ≠ 2; decide)
    · split
      · rfl
      · rfl
  cases ph with
  | idle => exact .inr ⟨rfl, fun h => by cases h⟩
  | rd a =>
    match a, hp with
    | 1, _ => exact .inr ⟨hpin, fun h => by cases h⟩
    | 2, hp => exact .inr ⟨by show mapL L.fill = _; rw [mapL_no (L := L) (by rw [hp.2]; decide)]; rfl, fun h => by cases h⟩
    | 3, _ => exact .inr ⟨rfl, fun h => by cases h⟩
    | 5, _ => exact .inr ⟨leave_map _ _, fun h => by cases h⟩
  | wr a =>
    match a, hp with
    | 0, _ => exact .inr ⟨hpin, fun h => by cases h⟩
    | 1, hp => exact .inr ⟨by show mapL L.fill = _; rw [mapL_no (L := L) (by rw [hp.2]; decide)]; rfl, fun h => by cases h⟩
    | 2, _ => exact .inr ⟨rfl, fun h => by cases h⟩
    | 3, hp =>
      by_cases hf : fitL (lfd (lput (lfe L) (mOf (Cl.op ⟨ops, nx, .wr 3⟩)))) = true
      · have e : stepC t L ⟨ops, nx, .wr 3⟩ = ((L.setN (lput (lfe L) (mOf (Cl.op ⟨ops, nx, .wr 3⟩)))).leave t, Cl.done ⟨ops, nx, .wr 3⟩, true, [evD t ⟨ops, nx, .wr 3⟩ ans0]) := by
          show (if fitL (lfd (lput (lfe L) (mOf (Cl.op ⟨ops, nx, .wr 3⟩)))) = true then _ else _) = _
          rw [if_pos hf]
        rw [e]
        refine .inl ⟨rfl, hp.1, hf, ?_, rfl, rfl⟩
        show mapL ((L.setN _).leave t) = _
        rw [leave_map, mapL_at hp.1, mapL_at (show (L.setN (lput (lfe L) (mOf (Cl.op ⟨ops, nx, .wr 3⟩)))).r.st = 2 from hp.1)]
        rfl
      · have e : stepC t L ⟨ops, nx, .wr 3⟩ = (L, ⟨ops, nx, .rm 1⟩, false, []) := by
          show (if fitL (lfd (lput (lfe L) (mOf (Cl.op ⟨ops, nx, .wr 3⟩)))) = true then _ else _) = _
          rw [if_neg hf]
        rw [e]
        exact .inr ⟨rfl, fun _ => ⟨hp.1, Bool.eq_false_iff.2 hf⟩⟩
  | rm a =>
    match a, hp with
    | 1, _ => exact .inr ⟨rfl, fun h => by cases h⟩
    | 6, _ => exact .inr ⟨rfl, fun h => by cases h⟩
    | 7, _ => exact .inr ⟨rfl, fun h => by cases h⟩
    | 10, _ => exact .inr ⟨leave_map _ _, fun h => by cases h⟩
theorem client_L {m : HM} {t : Nat} {c : Cl} (hc : m.cs[t]? = some c) : (m.client t).L = (stepC (t : Int) m.L c).1 := by unfold HM.client; rw [hc]
def OneK (k : Kv 8) (es : List En) : Prop := es = [] ∨ ∃ v, vck v = true ∧ es = [⟨k, v⟩]
theorem kcmp_self (k : Kv 8) : kcmp k k = 0 := lex_self _
theorem one_fit {k : Kv 8} (hk : kck k = true) {es : List En} (h : OneK k es) : fitL (lfd es) = true := by
  rcases h with rfl | ⟨v, hv, rfl⟩
  · exact nvL_fit
  · have h1 := kck_bd hk
    have h2 := vck_bd hv
    unfold fitL
    have e1 : lck (lfd [⟨k, v⟩]).es = true := by
      show lck [⟨k, v⟩] = true
      unfold lck
      simp only [List.length_singleton, List.range_one, List.all_cons, List.all_nil, Bool.and_true]
      unfold lckAt
      simp [hk, hv]
    have e2 : lby (lfd [⟨k, v⟩]).es ≤ 248 := by
      show lby [⟨k, v⟩] ≤ 248
      unfold lby lsz
      simp
      omega
    rw [e1, decide_eq_true e2]; rfl
theorem one_lput {k : Kv 8} {es : List En} (h : OneK k es) {m : Ms} (hm : m.key = k) : lput es m = lnew es m ∧ (∀ v, es = [⟨k, v⟩] → lfind es k = (v, true)) ∧ (es = [] → lfind es k = (kv0 16, false)) := by
  rcases h with rfl | ⟨v, hv, rfl⟩
  · refine ⟨?_, fun v h => by (cases h), fun _ => rfl⟩
    unfold lput
    simp [lpos]
  · have hp : lpos [⟨k, v⟩] k = 0 := by unfold lpos; simp [kcmp_self]
    have hl : lis [⟨k, v⟩] k = true := by unfold lis; rw [hp]; simp
    refine ⟨?_, fun u h => ?_, fun h => by (cases h)⟩
    · unfold lput
      rw [hm, hp, hl]; simp
    · cases h
      unfold lfind; rw [hp]; simp
theorem vck_vof (s : ByteArray) (h : s.size ≤ 16) : vck (vof s h) = true := by
  have hl := byt_len s
  have ht : (pad (byt s) 16).take s.size = byt s := by
    unfold pad
    rw [List.take_append_of_le_length (by omega), List.take_of_length_le (by omega)]
  unfold vck vcheck
  refine decide_eq_true ⟨by show (0 : Int) ≤ (s.size : Int); omega, by show (s.size : Int) ≤ 16; omega, ?_⟩
  show pad ((pad (byt s) 16).take ((s.size : Int)).toNat) 16 = pad (byt s) 16
  rw [Int.toNat_natCast, ht]
theorem vck_vOf {o : Opn} (h : o.Ok) (hk : o.kind = 1) : vck (vOf o) = true := by
  rw [vOf_eq (h.v hk)]; exact vck_vof _ _
theorem vck_from (z : Int) : vck (vfrom z) = true := vcheck_from z
theorem one_new {k : Kv 8} {es : List En} (h : OneK k es) {o : Opn} (ho : o.Ok) (hk : kOf o = k) (hd : o.kind = 1 ∨ o.kind = 3) : ∃ v, vck v = true ∧ lput es (mOf o) = [⟨k, v⟩] ∧ v = (map' (lfind es k).1 (lfind es k).2 (mOf o)).1 := by
  obtain ⟨h1, h2, h3⟩ := one_lput h (m := mOf o) hk
  rw [h1]
  have hkk : (mOf o).key = k := hk
  unfold lnew
  rw [hkk]
  rcases hd with hd | hd
  · have e : map' (lfind es k).1 (lfind es k).2 (mOf o) = (vOf o, true) := by
      unfold map'
      rw [if_pos (show (mOf o).kind = 1 from hd), mOf_put hd]; rfl
    rw [e, if_pos rfl]
    exact ⟨vOf o, vck_vOf ho hd, rfl, rfl⟩
  · have e : (map' (lfind es k).1 (lfind es k).2 (mOf o)).2 = true ∧ vck (map' (lfind es k).1 (lfind es k).2 (mOf o)).1 = true := by
      unfold map'
      rw [if_neg (show ¬ (mOf o).kind = 1 by show ¬ o.kind = 1; omega), if_pos (show (mOf o).kind = 3 from hd)]
      exact ⟨rfl, vck_from _⟩
    rw [if_pos e.1]
    exact ⟨_, e.2, rfl, rfl⟩
structure One (k : Kv 8) (m : HM) : Prop where
  ck : kck k = true
  ops : ∀ c ∈ m.cs, ∀ o ∈ c.ops, kOf o = k
  es : OneK k (mapL m.L)
theorem One.put {k : Kv 8} {m : HM} (h : One k m) {c : Cl} (hc : c ∈ m.cs) (hi : Inv m) (hn : c.nx < c.ops.length) (hk : c.op.kind = 1 ∨ c.op.kind = 3) : OneK k (lput (mapL m.L) (mOf c.op)) := by
  have hm := op_mem hn
  obtain ⟨v, h1, h2, _⟩ := one_new h.es ((hi.ops c hc).1 _ hm).1 (h.ops c hc _ hm) hk
  exact .inr ⟨v, h1, h2⟩
structure Wop (m : HM) : Prop where
  w : ∀ c ∈ m.cs, (∃ a, c.ph = .wr a) ∨ (∃ a, c.ph = .rm a) → c.op.kind = 1 ∨ c.op.kind = 3
theorem One.small {k : Kv 8} {m : HM} (h : One k m) (hi : Inv m) (hw : Wop m) : ∀ c ∈ m.cs, Small m.L c := fun c hc e h2 => by
  left
  have hn := (hi.ops c hc).2.2 (by rw [e]; simp)
  have := h.put hc hi hn (hw.w c hc (.inl ⟨3, e⟩))
  rw [mapL_at h2] at this
  exact one_fit h.ck this
theorem Wop.step {m : HM} (h : Wop m) (hi : Inv m) (p : Int) : Wop (stepH m p) := by
  rcases stepH_cases hi p with ⟨e, _⟩ | ⟨t, c, hc, h0, hpre, e⟩
  · rw [e]; exact h
  · rw [e]
    refine ⟨fun d hd hp => ?_⟩
    have hd2 : d ∈ m.cs.set t (stepC (t : Int) m.L c).2.1 := by rw [← client_cs hc]; exact hd
    rcases List.mem_or_eq_of_mem_set hd2 with e1 | e1
    · exact h.w d e1 hp
    · subst e1
      have hcm := List.mem_of_getElem? hc
      have hw := h.w c hcm
      obtain ⟨ops, nx, ph⟩ := c
      have hop : ∀ p1 p2, Cl.op ⟨ops, nx, p1⟩ = Cl.op ⟨ops, nx, p2⟩ := fun _ _ => rfl
      cases ph with
      | idle =>
        have e : (stepC (t : Int) m.L ⟨ops, nx, .idle⟩).2.1 = ⟨ops, nx, if (Cl.op ⟨ops, nx, .idle⟩).kind = 4 then .rd 1 else .wr 0⟩ := rfl
        rw [e] at hp ⊢
        by_cases h4 : (Cl.op ⟨ops, nx, .idle⟩).kind = 4
        · simp [h4] at hp
        · have := hpre.2.2
          rcases this with h1 | h1 | h1
          · exact .inl h1
          · exact .inr h1
          · exact absurd h1 h4
      | rd a =>
        match a, hpre with
        | 1, _ => exact absurd hp (by show ¬ ((∃ a, Ph.rd _ = .wr a) ∨ ∃ a, Ph.rd _ = .rm a); simp)
        | 2, _ => exact absurd hp (by show ¬ ((∃ a, Ph.rd _ = .wr a) ∨ ∃ a, Ph.rd _ = .rm a); simp)
        | 3, _ => exact absurd hp (by show ¬ ((∃ a, Ph.rd _ = .wr a) ∨ ∃ a, Ph.rd _ = .rm a); simp)
        | 5, _ => exact absurd hp (by show ¬ ((∃ a, Ph.idle = .wr a) ∨ ∃ a, Ph.idle = .rm a); simp)
      | wr a =>
        have hw := hw (.inl ⟨a, rfl⟩)
        match a, hpre with
        | 0, _ => exact hw
        | 1, _ => exact hw
        | 2, _ => exact hw
        | 3, _ =>
          by_cases hf : fitL (lfd (lput (lfe m.L) (mOf (Cl.op ⟨ops, nx, .wr 3⟩)))) = true
          · have e : (stepC (t : Int) m.L ⟨ops, nx, .wr 3⟩).2.1 = ⟨ops, nx + 1, .idle⟩ := by
              show (if fitL (lfd (lput (lfe m.L) (mOf (Cl.op ⟨ops, nx, .wr 3⟩)))) = true then _ else _ : Lf × Cl × Bool × List Evt).2.1 = _
              rw [if_pos hf]; rfl
            rw [e] at hp; simp at hp
          · have e : (stepC (t : Int) m.L ⟨ops, nx, .wr 3⟩).2.1 = ⟨ops, nx, .rm 1⟩ := by
              show (if fitL (lfd (lput (lfe m.L) (mOf (Cl.op ⟨ops, nx, .wr 3⟩)))) = true then _ else _ : Lf × Cl × Bool × List Evt).2.1 = _
              rw [if_neg hf]
            rw [e]; exact hw
      | rm a =>
        have hw := hw (.inr ⟨a, rfl⟩)
        match a, hpre with
        | 1, _ => exact hw
        | 6, _ => exact hw
        | 7, _ => exact hw
        | 10, _ => exact absurd hp (by show ¬ ((∃ a, Ph.idle = .wr a) ∨ ∃ a, Ph.idle = .rm a); simp)
theorem One.step {k : Kv 8} {m : HM} (h : One k m) (hi : Inv m) (hw : Wop m) (p : Int) : One k (stepH m p) := by
  rcases stepH_cases hi p with ⟨e, _⟩ | ⟨t, c, hc, h0, hpre, e⟩
  · rw [e]; exact h
  · rw [e]
    have hcm := List.mem_of_getElem? hc
    refine ⟨h.ck, fun d hd => ?_, ?_⟩
    · have hd2 : d ∈ m.cs.set t (stepC (t : Int) m.L c).2.1 := by rw [← client_cs hc]; exact hd
      rcases List.mem_or_eq_of_mem_set hd2 with e1 | e1
      · exact h.ops d e1
      · subst e1; rw [stepC_ops]; exact h.ops c hcm
    · show OneK k (mapL (m.client t).L)
      rw [client_L hc]
      rcases map_step hi.lok hpre with ⟨e3, e4, e5, e6, _⟩ | ⟨e3, _⟩
      · rw [e6]
        exact h.put hcm hi ((hi.ops c hcm).2.2 (by rw [e3]; simp)) (hw.w c hcm (.inl ⟨3, e3⟩))
      · rw [e3]; exact h.es
def oA : Opn := ⟨1, ⟨#[97]⟩, ⟨#[49]⟩, 0, by decide, by decide⟩
def oB : Opn := ⟨3, ⟨#[97]⟩, ⟨#[]⟩, 1, by decide, by decide⟩
def awL : List (List Opn) := [[oA], [oB]]
def aw0 : HM := hmS 4 9 0 awL
def iterH : Nat → HM → HM
  | 0, m => m
  | k + 1, m => stepH (iterH k m) (k : Int)
theorem aw_a : (iterH 60 aw0).cs.all Cl.ended = true ∧ (iterH 60 aw0).ev.length = 4 ∧ (iterH 60 aw0).sq = 3 ∧ (mapL (iterH 60 aw0).L).length = 1 := by decide +kernel
theorem aw_b : ((iterH 60 aw0).L.r.st = 0 ∨ (iterH 60 aw0).L.r.st = 2) ∧ (iterH 60 aw0).L.r.pins = 0 ∧ (iterH 60 aw0).L.cl = 0 ∧ Lt.idleB (iterH 60 aw0).L.la = true := by decide +kernel
theorem aw_c : ((mapL (iterH 60 aw0).L).map (fun e => e.val.n)).all (fun n => decide (0 < n)) = true := by decide +kernel
theorem rro2 {w : World} {v : Value} {s0 s1 : Sv} {l0 l1 : List Opn} (h : RdV w v encSv [s0, s1]) (h0 : RdV w s0.v Opn.enc l0) (h1 : RdV w s1.v Opn.enc l1) : RRo w v [s0, s1] [l0, l1] := ⟨h, rfl, fun i s l e1 e2 => by
  match i with
  | 0 => cases e1; cases e2; exact h0
  | 1 => cases e1; cases e2; exact h1
  | i + 2 => simp at e1⟩
theorem en_n (e : En) : e.c[9]? = some (.int .i64 e.val.n) := by
  unfold En.c
  rw [List.getElem?_append_right (by rw [Kv.c_len]; decide), Kv.c_len]; rfl
theorem oA_ok : oA.Ok := ⟨by decide, fun _ => by decide⟩
theorem oB_ok : oB.Ok := ⟨by decide, fun h => by cases h⟩
theorem awL_ok : ∀ l ∈ awL, ∀ o ∈ l, o.Ok ∧ (o.kind = 1 ∨ o.kind = 3 ∨ o.kind = 4) := fun l hl o ho => by
  simp [awL] at hl
  rcases hl with rfl | rfl
  · simp at ho; subst ho; exact ⟨oA_ok, .inl rfl⟩
  · simp at ho; subst ho; exact ⟨oB_ok, .inr (.inl rfl)⟩
theorem wop0 (nb nf fl : Nat) (ls : List (List Opn)) : Wop (hmS nb nf fl ls) := ⟨fun c hc h => by
  obtain ⟨l, _, rfl⟩ := List.mem_map.1 (show c ∈ ls.map cl0 from hc)
  rcases h with ⟨a, h⟩ | ⟨a, h⟩ <;> cases h⟩
theorem one0 {k : Kv 8} (nb nf fl : Nat) {ls : List (List Opn)} (hk : kck k = true) (h : ∀ l ∈ ls, ∀ o ∈ l, kOf o = k) : One k (hmS nb nf fl ls) := ⟨hk, fun c hc o ho => by
  obtain ⟨l, hl, rfl⟩ := List.mem_map.1 (show c ∈ ls.map cl0 from hc)
  exact h l hl o ho, .inl rfl⟩
theorem aw_run : ∀ i : Nat, Inv (iterH i aw0) ∧ One (kOf oA) (iterH i aw0) ∧ Wop (iterH i aw0) ∧ (iterH i aw0).pk ≤ i
  | 0 => ⟨hmS_inv (by decide) (by decide) (by decide) awL_ok, one0 4 9 0 (kOf_ck oA_ok) (fun l hl o ho => by
      simp [awL] at hl
      rcases hl with rfl | rfl
      · simp at ho; subst ho; rfl
      · simp at ho; subst ho; decide +kernel), wop0 _ _ _ _, Nat.le_refl 0⟩
  | i + 1 => by
    obtain ⟨h1, h2, h3, h4⟩ := aw_run i
    have hs := h1.step (i : Int) (h2.small h1 h3)
    exact ⟨hs.1, h2.step h1 h3 _, h3.step h1 _, by have := hs.2.2.2; show (stepH _ _).pk ≤ _; omega⟩
theorem awake_spec  : Con Tryz.prog 17 [] (fun _ => True) [] (fun _ : Unit => .bool true) (fun _ => True) (fun _ => []) := by
  intro w hE hH
  refine enter (n := 67) (vs := []) (St w [] []) func17 I I I (St.init hH) ?_
  refine Cs I (Ak I (Cs I (Lq I (q_build (Opn.c oA) I I (fun w => by kernel_rfl)) (l_e I (e_buildSliceV (sz := 4) [.tmp 6] I I I I I U40 Z43 I zeroValue43 I ?_)))))
  intro ba
  refine Lq I (q_build (Opn.c oB) I I (fun w => by kernel_rfl)) (l_e I (e_buildSliceV (sz := 4) [.tmp 8] I I I I I U40 Z43 I zeroValue43 I ?_))
  intro bb
  refine l_e I (e_buildSliceV (sz := 1) [.tmp 7, .tmp 9] I I I I I U25 Z40 I zeroValue40 I ?_)
  intro bo
  refine Lq I (q_build ([.int .i64 ((4 : Nat) : Int), .int .i64 ((9 : Nat) : Int), .int .i64 ((0 : Nat) : Int), .slice (some ⟨bo, 0, none⟩) 2 2]) I I (fun w => by kernel_rfl)) (l_e I (e_callH [_, _, _] (HA := []) (hhnew (vs := [⟨some ⟨ba, 0, none⟩, 1, 1⟩, ⟨some ⟨bb, 0, none⟩, 1, 1⟩]) (ls := awL) (nb := 4) (nf := 9) (fl := 0) (by decide) (by decide) (by decide) (by decide) (by decide) (by decide) (by decide) (fun l hl => by simp [awL] at hl; rcases hl with rfl | rfl <;> simp) (fun l hl o ho => by have := (awL_ok l hl o ho).2; omega)) rfl rfl rfl call18 rfl (fun _ h => rro2 (lit_rd (h.at 0 rfl) encSv [⟨some ⟨ba, 0, none⟩, 1, 1⟩, ⟨some ⟨bb, 0, none⟩, 1, 1⟩] rfl rfl) (lit_rd (h.at 2 rfl) Opn.enc [oA] rfl rfl) (lit_rd (h.at 1 rfl) Opn.enc [oB] rfl rfl)) ?_))
  intro z hz
  refine Lm I (Lq I (q_extract I I I) (Lq I (q_extract I I I) (Las I (Ak I (c_seq (Cs I (Lm I (Lq I (q_neq I I I) (Lm I (drop0 (drop0 (drop0 (Sb 17 false I (I) (Lm I (Lq I (q_eqp I underlying24 I I) (Lq I (q_pick_f I I I) (Lm I (Sb 21 false I (I) (Lm I (l_e I (e_callH [] (zhall hz) I I I call19 I Tt ?_)))))))))))))))))))))
  intro _ _
  refine Pre.world (St _ _ (HC.H z aw0)) Ih ?_
  refine Lq I (q_eqp I underlying47 I I) (Lq I (q_pick_f I I I) (Nk (Sb 25 false I (I) (c_false I (c_skip (Ks (Cs I (Ak I (c_block ?_)))))))))
  refine Pre.world (St w [] (HC.H z (iterH 0 aw0))) Ih ?_
  refine c_loop2 (fun (i : Nat) (z : HC) => [(1, ptV z.bH), (3, .int .i64 (i : Int))]) (fun (i : Nat) (z : HC) => St w [] (HC.H z (iterH i aw0))) (fun (i : Nat) (z : HC) => i ≤ 60 ∧ HOk z (iterH i aw0) (2 * i)) (fun (i : Nat) (z : HC) => 60 - i) (0) (z) ⟨by decide, hz⟩ (Sn I (Sn I (Sub.nil))) Ih ?_
  intro i z hp
  refine c_seq (c_seq ?_)
  obtain ⟨hi, hk⟩ := hp
  obtain ⟨r1, r2, r3, r4⟩ := aw_run i
  refine Cr I (Lm I (Lq I (q_lss I I I) (Nk ?_)))
  refine Pre.caseB 27 I (fun hlt => ?_) (fun hlt => ?_)
  · try simp only [B4] at hlt
    refine c_true I (c_skip (Ks (c_block (Cr I (Lm I (Lm I (l_e I (e_callH [] (hstep hk (by omega) (by omega) r1.preH (i : Int)) I I I call13 I Tt ?_))))))))
    rintro y ⟨hy1, hy2⟩
    refine Pre.world (St _ _ (HC.H y (iterH (i + 1) aw0))) Ih ?_
    refine l_nil (k_block (Kt (Cr I (Lm I (Lq I (q_inc I I I (by omega)) (Las I (l_nil (Sv' 1 (ptV y.bH) I (by rw [hy1]) ?_))))))))
    exact k_round ((i + 1, y)) (by dsimp only; omega) ⟨by dsimp only; omega, hy2⟩ (Sub.cons I (Sub.cons I (Sub.nil))) (fun _ h => h)
  · try simp only [B4] at hlt
    have hi60 : i = 60 := by omega
    subst hi60
    obtain ⟨a1, a2, a3, a4⟩ := aw_a
    obtain ⟨b1, b2, b3, b4⟩ := aw_b
    refine c_false I (c_exit (k_then_exit (k_then_exit (k_block_exit (Kt (Cs I (Lm I (l_e I (e_callH [] (zhall hk) I I I call19 I Tt ?_)))))))))
    intro _ _
    refine Pre.world (St _ _ (HC.H z (iterH 60 aw0))) Ih ?_
    refine l_e I (e_callH [] (zmap hk) I I I call20 I Tt ?_)
    intro vm _
    refine Pre.world (St _ _ (_ :: HC.H z (iterH 60 aw0))) Ih ?_
    refine Ak I (Cs I (Lm I ?_))
    obtain ⟨e0, he0⟩ : ∃ e, (mapL (iterH 60 aw0).L)[0]? = some e := ⟨_, List.getElem?_eq_getElem (by omega)⟩
    have hc0 : 0 < e0.val.n := by
      have h9 := List.all_eq_true.1 aw_c _ (List.mem_map.2 ⟨e0, List.mem_of_getElem? he0, rfl⟩)
      exact of_decide_eq_true h9
    refine l_e I (e_callH [_] (zended hk) I I I call12 I Tt ?_)
    intro _ _
    refine Pre.world (St _ _ (_ :: HC.H z (iterH 60 aw0))) Ih ?_
    refine Sv' 37 (.bool true) I (by rw [a1]) (Lm I (Lm I (l_e I (e_callH [_] (zevents hk) I I I call15 I Tt ?_))))
    intro ve _
    refine Pre.world (St _ _ (_ :: _ :: HC.H z (iterH 60 aw0))) Ih ?_
    refine Lq I (q_lenV I U34 I (Hrd 1 I)) (Lq I (q_eql I I I) (Lq I (q_pick_t I I I) (Lm I (Sb 44 true I (by first | rfl | exact decide_eq_true (by omega) | (simp only [decide_eq_true_eq]; omega)) (Lm I (l_e I (e_callH [_, _] (zseq hk) I I I call47 I Tt ?_)))))))
    intro _ _
    refine Pre.world (St _ _ (_ :: _ :: HC.H z (iterH 60 aw0))) Ih ?_
    refine Lq I (q_eql I I I) (Lq I (q_pick_t I I I) (Lm I (Sb 49 true I (by first | rfl | exact decide_eq_true (by omega) | (simp only [decide_eq_true_eq]; omega)) (Lm I (Lq I (q_lenV I U49 I (Hrd 0 I)) (Lq I (q_eql I I I) (Lq I (q_pick_t I I I) (Lm I (Sb 54 true I (by first | rfl | exact decide_eq_true (by omega) | (simp only [decide_eq_true_eq]; omega)) (Lm I (Lq I (q_indexV 0 I U49 Z79 I (Hrd 0 I) I I (by omega)) (Lfa U79 I Z56 I (Lfa underlying56 I Z3 I (Lq I (q_loadV 0 9 I G3 I I (Hrd 0 I) he0 (en_n e0)) (Lq I (q_gtr I I I) (Lq I (q_pick_t I I I) (Lm I (Sb 62 true I (by first | rfl | exact decide_eq_true (by omega) | (simp only [decide_eq_true_eq]; omega)) (Lm I (l_e I (e_callH [_, _] (zhall hk) I I I call19 I Tt ?_)))))))))))))))))))))
    intro _ _
    refine Pre.world (St _ _ (_ :: _ :: HC.H z (iterH 60 aw0))) Ih ?_
    refine l_e I (e_callH [_, _] (zidle hk b1 b2 b3 b4) I I I call48 I Tt ?_)
    intro _ _
    refine Pre.world (St _ _ (_ :: _ :: HC.H z (iterH 60 aw0))) Ih ?_
    refine Lq I (q_pick_t I I I) (Ak I (c_ret (r_one I I ?_)))
    exact fun _ h => ⟨(), rfl, trivial, h.nothing⟩
def keyB (i : Nat) : ByteArray := ⟨#[107, 101, 121]⟩ ++ strOfNums [97 + (i : Int)]
def valB (n : Nat) : ByteArray := strOfNums (List.replicate n 0)
def fOp (n i : Nat) : Opn := ⟨1, keyB i, valB n, 0, by decide, by decide⟩
def fOps (n : Nat) (i : Nat) : List Opn := (List.range i).map (fOp n)
theorem fOps_len (n i : Nat) : (fOps n i).length = i := by unfold fOps; rw [List.length_map, List.length_range]
theorem fOps_next (n i : Nat) : fOps n i ++ [fOp n i] = fOps n (i + 1) := by unfold fOps; rw [List.range_succ, List.map_append]; rfl
def fits (n : Nat) : Nat := min 22 (248 / (6 + n))
def f0 (n : Nat) : HM := hmS 1 5 0 [fOps n 22]
def runF : Nat → HM → HM
  | 0, m => m
  | k + 1, m => stepH (runF k m) 0
def smB (L : Lf) (c : Cl) : Bool := match c.ph with
  | .wr 3 => !decide (L.r.st = 2) || fitL (lfd (lput (lfe L) (mOf c.op))) || (decide (L.s.left < 2) && decide (2 ≤ L.r.nd.es.length))
  | _ => true
theorem smB_ok {L : Lf} {c : Cl} (h : smB L c = true) : Small L c := fun e h2 => by
  unfold smB at h
  rw [e] at h
  simp only [Bool.or_eq_true, Bool.and_eq_true, Bool.not_eq_true', decide_eq_false_iff_not, decide_eq_true_eq] at h
  rcases h with (h | h) | h
  · exact absurd h2 h
  · exact .inl h
  · exact .inr h
def allF : Nat → HM → (HM → Bool) → Bool
  | 0, m, f => f m
  | k + 1, m, f => m.cs.all (smB m.L) && allF k (stepH m 0) f
def finF (n : Nat) (m : HM) : Bool := m.cs.all Cl.ended && decide (m.ev.length = 44) && decide ((mapL m.L).length = fits n) && (List.range 22).all (fun i => match m.ev[2 * i + 1]? with | some e => decide (decide (e.a.code = 0) = decide (i < fits n)) | none => false)
theorem fin_all : (List.range 17).all (fun n => allF 198 (f0 n) (finF n)) = true := by decide +kernel
theorem step_len {m : HM} (h : Inv m) (p : Int) : (stepH m p).cs.length = m.cs.length := by
  rcases stepH_cases h p with ⟨e, _⟩ | ⟨t, c, hc, _, _, e⟩
  · rw [e]
  · rw [e]
    show (m.client t).cs.length = _
    rw [client_cs hc, List.length_set]
theorem step_one {m : HM} (h : Inv m) (h1 : m.cs.length = 1) (p : Int) : stepH m p = stepH m 0 := by
  by_cases hr : Sc.runM m.T = []
  · unfold stepH; rw [if_pos hr, if_pos hr]
  · have hw : ∀ q, Sc.whoM m.T q = 0 := fun q => by
      obtain ⟨c, hc, _⟩ := h.run (Sc.who_mem q hr)
      have := (List.getElem?_eq_some_iff.1 hc).1
      omega
    have hp : Sc.pickM m.T p = Sc.pickM m.T 0 := by unfold Sc.pickM; rw [if_neg hr, if_neg hr, hw p, hw 0]
    unfold stepH
    rw [if_neg hr, if_neg hr, hp, hw p, hw 0]
theorem step_end {m : HM} (h : Inv m) (he : m.cs.all Cl.ended = true) (p : Int) : stepH m p = m := by
  rcases stepH_cases h p with ⟨e, _⟩ | ⟨t, c, hc, _, hpre, _⟩
  · exact e
  · have hx := List.all_eq_true.1 he c (List.mem_of_getElem? hc)
    unfold Cl.ended at hx
    simp only [Bool.and_eq_true, decide_eq_true_eq] at hx
    unfold preC at hpre
    rw [hx.1] at hpre
    exact absurd hpre.1 (by rw [hx.2]; exact Nat.lt_irrefl _)
theorem runF_shift : ∀ (k : Nat) (m : HM), runF (k + 1) m = runF k (stepH m 0)
  | 0, m => rfl
  | k + 1, m => by show stepH (runF (k + 1) m) 0 = stepH (runF k (stepH m 0)) 0; rw [runF_shift k m]
theorem allF_at {f : HM → Bool} : ∀ (k : Nat) (m : HM), allF k m f = true → (∀ j, j < k → (runF j m).cs.all (smB (runF j m).L) = true) ∧ f (runF k m) = true
  | 0, m, h => ⟨fun j hj => absurd hj (Nat.not_lt_zero j), h⟩
  | k + 1, m, h => by
    have h2 : m.cs.all (smB m.L) = true ∧ allF k (stepH m 0) f = true := by
      have : (m.cs.all (smB m.L) && allF k (stepH m 0) f) = true := h
      simpa only [Bool.and_eq_true] using this
    obtain ⟨h3, h4⟩ := allF_at k (stepH m 0) h2.2
    refine ⟨fun j hj => ?_, by rw [runF_shift]; exact h4⟩
    cases j with
    | zero => exact h2.1
    | succ j => rw [runF_shift]; exact h3 j (by omega)
theorem strOf_size (l : List Int) : (strOfNums l).size = l.length := by
  show ((l.map fun n => UInt8.ofNat n.toNat).toArray).size = _
  simp
theorem keyB_size (i : Nat) : (keyB i).size = 4 := by
  unfold keyB
  rw [ByteArray.size_append, strOf_size]; rfl
theorem fOp_ok {n : Nat} (hn : n < 17) (i : Nat) : (fOp n i).Ok := ⟨by show (keyB i).size ≤ 8; rw [keyB_size]; decide, fun _ => by show (valB n).size ≤ 16; unfold valB; rw [strOf_size, List.length_replicate]; omega⟩
theorem fOps_ok {n : Nat} (hn : n < 17) (i : Nat) : ∀ o ∈ fOps n i, o.Ok ∧ (o.kind = 1 ∨ o.kind = 3 ∨ o.kind = 4) := fun o ho => by
  obtain ⟨j, _, rfl⟩ := List.mem_map.1 ho
  exact ⟨fOp_ok hn j, .inl rfl⟩
theorem f0_inv {n : Nat} (hn : n < 17) : Inv (f0 n) := hmS_inv (by decide) (by decide) (show 1 + (0 + 1) ≤ 8 by decide) (fun l hl o ho => by
  rw [List.mem_singleton.1 hl] at ho
  exact fOps_ok hn 22 o ho)
theorem fin_at {n : Nat} (hn : n < 17) : (∀ j, j < 198 → (runF j (f0 n)).cs.all (smB (runF j (f0 n)).L) = true) ∧ finF n (runF 198 (f0 n)) = true :=
  allF_at 198 (f0 n) (List.all_eq_true.1 fin_all n (List.mem_range.2 hn))
theorem full_run {n : Nat} (hn : n < 17) : ∀ i : Nat, i ≤ 198 → Inv (runF i (f0 n)) ∧ (runF i (f0 n)).cs.length = 1 ∧ (runF i (f0 n)).pk ≤ i
  | 0, _ => ⟨f0_inv hn, rfl, Nat.le_refl 0⟩
  | i + 1, hi => by
    obtain ⟨h1, h2, h3⟩ := full_run hn i (by omega)
    have hs := h1.step 0 (fun c hc => smB_ok (List.all_eq_true.1 ((fin_at hn).1 i (by omega)) c hc))
    exact ⟨hs.1, (step_len h1 0).trans h2, by have := hs.2.2.2; show (stepH _ _).pk ≤ _; omega⟩
theorem full_end {n : Nat} (hn : n < 17) : (runF 198 (f0 n)).cs.all Cl.ended = true ∧ (runF 198 (f0 n)).ev.length = 44 ∧ (mapL (runF 198 (f0 n)).L).length = fits n ∧ ∀ i, i < 22 → ∃ e, (runF 198 (f0 n)).ev[2 * i + 1]? = some e ∧ decide (e.a.code = 0) = decide (i < fits n) := by
  have h := (fin_at hn).2
  unfold finF at h
  simp only [Bool.and_eq_true, decide_eq_true_eq] at h
  refine ⟨h.1.1.1, h.1.1.2, h.1.2, fun i hi => ?_⟩
  have h2 := List.all_eq_true.1 h.2 i (List.mem_range.2 hi)
  cases he : (runF 198 (f0 n)).ev[2 * i + 1]? with
  | none => rw [he] at h2; cases h2
  | some e => rw [he] at h2; exact ⟨e, rfl, of_decide_eq_true h2⟩
theorem full_stay {n : Nat} (hn : n < 17) {i : Nat} (he : (runF i (f0 n)).cs.all Cl.ended = true) : ∀ k, i + k ≤ 198 → runF (i + k) (f0 n) = runF i (f0 n)
  | 0, _ => rfl
  | k + 1, hk => by
    have ih := full_stay hn he k (by omega)
    show stepH (runF (i + k) (f0 n)) 0 = _
    rw [ih]
    exact step_end (full_run hn i (by omega)).1 he 0
theorem full_at {n : Nat} (hn : n < 17) {i : Nat} (hi : i ≤ 198) (he : (runF i (f0 n)).cs.all Cl.ended = true) : runF 198 (f0 n) = runF i (f0 n) := by
  have := full_stay hn he (198 - i) (by omega)
  rwa [show i + (198 - i) = 198 from by omega] at this
theorem full_next {n : Nat} (hn : n < 17) {i : Nat} (hi : i ≤ 198) (p : Int) : stepH (runF i (f0 n)) p = runF (i + 1) (f0 n) := step_one (full_run hn i hi).1 (full_run hn i hi).2.1 p
theorem rro1 {w : World} {v : Value} {s0 : Sv} {l0 : List Opn} (h : RdV w v encSv [s0]) (h0 : RdV w s0.v Opn.enc l0) : RRo w v [s0] [l0] := ⟨h, rfl, fun i s l e1 e2 => by
  match i with
  | 0 => cases e1; cases e2; exact h0
  | i + 1 => simp at e1⟩
theorem build43 (a b : ByteArray) (w : World) : (Instr.build 43 #[(0, .int .i64 1), (1, .string a), (2, .string b)]).run Tryz.prog w = .ok (.agg ([.int .i64 1, .string a, .string b, .int .u64 0] : List Value).toArray) w := by kernel_rfl
theorem build27 (a : Option Addr) (m c : Nat) (w : World) : (Instr.build 27 #[(0, .int .i64 1), (1, .int .i64 5), (3, .slice a m c)]).run Tryz.prog w = .ok (.agg ([.int .i64 ((1 : Nat) : Int), .int .i64 ((5 : Nat) : Int), .int .i64 ((0 : Nat) : Int), .slice a m c] : List Value).toArray) w := by kernel_rfl
theorem conf_one (x y z : Int) (a : Option Addr) (m c : Nat) : ∀ v ∈ ([.int .i64 x, .int .i64 y, .int .i64 z, .slice a m c] : List Value), v.oneCell' = true := fun v hv => by
  simp only [List.mem_cons, List.not_mem_nil, or_false] at hv
  rcases hv with rfl | rfl | rfl | rfl <;> rfl
theorem fit_val (n : Nat) : (if (248 : Int) / (6 + (n : Int)) < 22 then (248 : Int) / (6 + (n : Int)) else 22) = ((fits n : Nat) : Int) := by
  have h : (248 : Int) / (6 + (n : Int)) = ((248 / (6 + n) : Nat) : Int) := by rw [Int.natCast_ediv]; rfl
  rw [h]; unfold fits
  split <;> omega
theorem full_spec {vp : Value} (a : Int) (hw : (Lit.int .u8 a).wf = true) (picks : List Int) (hpl : picks.length ≤ 9223372036854775807) : Con Tryz.prog 9 [.int .u8 a, vp] (fun w => RdV w vp (encI .u8) picks) [] (fun _ : Unit => .bool true) (fun _ => True) (fun _ => []) := by
  intro w hE hH
  obtain ⟨k, rfl, hk⟩ := u8_nat hw
  obtain ⟨n, hn⟩ : ∃ n : Nat, n = k % 17 := ⟨_, rfl⟩
  have hn17 : n < 17 := by omega
  refine enter (n := 108) (vs := [.int .u8 (k : Int), vp]) (St w [] []) func9 I I I (St.init hH) ?_
  refine Cs I (Ak I (Cs I (l_e I (e_makeSlice encSv sv0 1 I I I U25 info40 I I I I I I I (by simp only [byt40]; omega) (by omega) ?_))))
  intro vo
  refine Pre.fact (fun _ h => row_sl (h.at 0 I)) ?_
  rintro ⟨a1, c2, rfl⟩
  refine Lq I (q_build ([.int .i64 ((1 : Nat) : Int), .int .i64 ((5 : Nat) : Int), .int .i64 ((0 : Nat) : Int), (.slice a1 (List.replicate 1 sv0).length c2)]) I I (build27 _ _ _)) (l_e I (e_alloc I I I zeroValue27 ?_))
  intro bc
  refine cells_eq (show _ = [.int .i64 0, .int .i64 0, .int .i64 0, .slice none 0 0] from I) (l_e I (e_storeAgg I I sizeOf27 I I I (conf_one _ _ _ _ _ _) (Nat.le_of_ble_eq_true I) (cells_eq (show _ = [.int .i64 ((1 : Nat) : Int), .int .i64 ((5 : Nat) : Int), .int .i64 ((0 : Nat) : Int), (.slice a1 (List.replicate 1 sv0).length c2)] from I) (Nk (Cs I (Lm I (Lq I (q_rem_nn I I I (by omega) (by omega)) (Lq I (q_conv_in I U5 U3 I (by first | rfl | (simp only [IntKind.wrap]; omega) | exact wrap64_in (by omega))) (Ak I (c_seq (Cs I (Ak I (c_block (Sv' 6 (.int .i64 (n : Int)) I (by rw [show (k : Int) % 17 = (n : Int) from by omega]) (row0 43 Opn.enc none (pull1 (pull2 (pull2 ?_))))))))))))))))))
  refine c_loop2 (fun (i : Nat) (s : Sv) => [(1, vp), (5, ptV bc), (6, .int .i64 (n : Int)), (7, .int .i64 (i : Int))]) (fun (i : Nat) (s : Sv) => St w [] [rowE (Sv.v s) 43 Opn.enc (fOps n i), rowE (.slice a1 (List.replicate 1 sv0).length c2) 40 encSv [s], cellsE bc 27 [.int .i64 ((1 : Nat) : Int), .int .i64 ((5 : Nat) : Int), .int .i64 ((0 : Nat) : Int), (.slice a1 (List.replicate 1 sv0).length c2)]]) (fun (i : Nat) (s : Sv) => i ≤ 22) (fun (i : Nat) (s : Sv) => 22 - i) (0) (sv0) (Nat.zero_le _) (Sn I (Sn I (Sn I (Sn I (Sub.nil))))) Ih ?_
  intro i s hi
  refine c_seq (Cs I (Lm I (Lq I (q_lss I I I) (Nk ?_))))
  refine Pre.caseB 20 I (fun hlt => ?_) (fun hlt => ?_)
  · try simp only [B4] at hlt
    refine c_true I (c_skip (Ks ?_))
    refine c_meet1 (fun (s2 : Sv) => [(1, vp), (5, ptV bc), (6, .int .i64 (n : Int)), (7, .int .i64 (i : Int))]) (fun (s2 : Sv) => St w [] [rowE (Sv.v s2) 43 Opn.enc (fOps n (i + 1)), rowE (.slice a1 (List.replicate 1 sv0).length c2) 40 encSv [s2], cellsE bc 27 [.int .i64 ((1 : Nat) : Int), .int .i64 ((5 : Nat) : Int), .int .i64 ((0 : Nat) : Int), (.slice a1 (List.replicate 1 sv0).length c2)]]) (fun (s2 : Sv) => True) ?_ ?_
    · have hs1 : ([s] : List Sv).length = 1 := rfl
      refine c_block (t_any (fun w2 => (cellsE bc 27 [.int .i64 ((1 : Nat) : Int), .int .i64 ((5 : Nat) : Int), .int .i64 ((0 : Nat) : Int), (.slice a1 (List.replicate 1 sv0).length c2)]).at w2 ∧ RdV w2 (.slice a1 (List.replicate 1 sv0).length c2) encSv [s]) [18, 19] (by kernel_rfl) I St.drawn (t_q (blind_block (blind_then (blind_then (blind_block (blind_then blind_body))))) 0 I I (by kernel_rfl) (by kernel_rfl) (by kernel_rfl) (fun _ h => ⟨h.at 2 rfl, h.rd 1 rfl⟩) I (q_fieldAddr I U27 I Z25 I I) I I (t_q (blind_block (blind_then (blind_then (blind_block (blind_then blind_body))))) 1 I I (by kernel_rfl) (by kernel_rfl) (by kernel_rfl) (fun _ h => ⟨h.at 2 rfl, h.rd 1 rfl⟩) I (q_loadC I isAgg25 I (fun _ h => h.1) I) I I (t_q (blind_block (blind_then (blind_then (blind_block (blind_then blind_body))))) 2 I I (by kernel_rfl) (by kernel_rfl) (by kernel_rfl) (fun _ h => ⟨h.at 2 rfl, h.rd 1 rfl⟩) I (q_fieldAddr I U27 I Z25 I I) I I (t_q (blind_block (blind_then (blind_then (blind_block (blind_then blind_body))))) 3 I I (by kernel_rfl) (by kernel_rfl) (by kernel_rfl) (fun _ h => ⟨h.at 2 rfl, h.rd 1 rfl⟩) I (q_loadC I isAgg25 I (fun _ h => h.1) I) I I (t_q (blind_block (blind_then (blind_then (blind_block (blind_then blind_body))))) 4 I I (by kernel_rfl) (by kernel_rfl) (by kernel_rfl) (fun _ h => ⟨h.at 2 rfl, h.rd 1 rfl⟩) I (q_indexV 0 I U25 Z40 I (fun _ h => h.2) I I (by omega)) I I (t_q (blind_block (blind_then (blind_then (blind_block (blind_then blind_body))))) 5 I I (by kernel_rfl) (by kernel_rfl) (by kernel_rfl) (fun _ h => ⟨h.at 2 rfl, h.rd 1 rfl⟩) I (q_loadV 0 0 I G40 I I (fun _ h => h.2) I I) I I (t_q (blind_block (blind_then (blind_then (blind_block (blind_then blind_body))))) 6 I I (by kernel_rfl) (by kernel_rfl) (by kernel_rfl) (fun _ h => ⟨h.at 2 rfl, h.rd 1 rfl⟩) I (q_move I I) I I (t_q (blind_block (blind_then (blind_then (blind_block (blind_then blind_body))))) 7 I I (by kernel_rfl) (by kernel_rfl) (by kernel_rfl) (fun _ h => ⟨h.at 2 rfl, h.rd 1 rfl⟩) I (q_add64 I I I (by omega)) I I (t_q (blind_block (blind_then (blind_then (blind_block (blind_then blind_body))))) 8 I I (by kernel_rfl) (by kernel_rfl) (by kernel_rfl) (fun _ h => ⟨h.at 2 rfl, h.rd 1 rfl⟩) I (q_conv_in I U3 U5 I (wrapu8_in (by omega))) I I (t_q (blind_block (blind_then (blind_then (blind_block (blind_then blind_body))))) 12 I I (by kernel_rfl) (by kernel_rfl) (by kernel_rfl) (fun _ h => ⟨h.at 2 rfl, h.rd 1 rfl⟩) I (q_move I I) I I ?_)))))))))))
      refine t_all2 9 13 (by kernel_rfl) I I I I ?_ ?_ 
      · refine e_buildSliceV (sz := 1) [.tmp 31] I I I I I U23 Z5 I zeroValue5 I ?_
        intro b1
        refine t_held (fun _ h => ⟨h.at 3 rfl, h.rd 2 rfl⟩) ?_
        refine t_all2 10 13 (by kernel_rfl) I I I I ?_ ?_ 
        · refine e_q I I (q_b2s (l := [97 + (i : Int)]) I U23 U5 U9 I (fun _ h => lit_rd (h.at 0 I) (encI .u8) [97 + (i : Int)] I I)) (t_held (fun _ h => ⟨h.at 3 rfl, h.rd 2 rfl⟩) (t_q (blind_block (blind_then (blind_then (blind_block (blind_then blind_body))))) 11 I I (by kernel_rfl) (by kernel_rfl) (by kernel_rfl) (fun _ h => ⟨h.at 3 rfl, h.rd 2 rfl⟩) I (q_addS I I I (by rw [strOf_size]; exact Nat.le_of_ble_eq_true I)) I I (t_all1 13 (by kernel_rfl) I I (e_makeSlice (encI .u8) 0 n I I I U23 info5 I I I I I I I (by simp only [byt5]; omega) (by omega) ?_))))
          intro mv
          refine t_held (fun _ h => ⟨h.at 4 rfl, h.rd 3 rfl⟩) (t_all1 14 (by kernel_rfl) I I (e_q I I (q_b2s (l := (List.replicate n 0)) I U23 U5 U9 I (Hrd 0 I)) (t_held (fun _ h => ⟨h.at 4 rfl, h.rd 3 rfl⟩) (t_q (blind_block (blind_then (blind_then (blind_block (blind_then blind_body))))) 15 I I (by kernel_rfl) (by kernel_rfl) (by kernel_rfl) (fun _ h => ⟨h.at 4 rfl, h.rd 3 rfl⟩) I (q_build ((fOp n i).c) I I (build43 _ _)) I I (t_all1 16 (by kernel_rfl) I I (e_buildSliceV (sz := 4) [.tmp 38] I I I I I U40 Z43 I zeroValue43 I ?_))))))
          intro b2
          refine t_held (fun _ h => ⟨h.at 5 rfl, h.rd 4 rfl⟩) (pull3 (t_all1 17 (by kernel_rfl) I I (e_append I I I U40 U40 info43 I I I I I (fun _ h => lit_rd (h.at 1 I) Opn.enc [fOp n i] I I) (by simp only [byt43, fOps_len, List.length_cons, List.length_nil]; omega) (by simp only [fOps_len, List.length_cons, List.length_nil]; omega) ?_)))
          intro v2
          refine t_held (fun _ h => ⟨h.at 5 rfl, h.rd 4 rfl⟩) (t_all1 18 (by kernel_rfl) I I (e_q I I (q_indexV 0 I U25 Z40 I (Hrd 4 I) I I (by omega)) (t_tail I (row_eq (fOps_next n i) (Pre.fact (fun _ h => rd_sv (h.rd 0 I)) ?_)))))
          rintro ⟨s2, rfl⟩
          refine pull4 (t_all1 19 (by kernel_rfl) I I (e_storeV 0 0 (s2) I I Z40 I I I I (by decide) I (t_tail I (t_nil (by kernel_rfl) (k_block (pull2 (drop0 (pull3 (drop0 (pull2 (drop0 (pull2 (pull1 (pull2 ?_))))))))))))))
          exact k_meet (s2) trivial (Sub.cons I (Sub.cons I (Sub.cons I (Sub.cons I (Sub.nil))))) (fun _ h => h)
        · refine e_makeSlice (encI .u8) 0 n I I I U23 info5 I I I I I I I (by simp only [byt5]; omega) (by omega) ?_
          intro mv
          refine t_held (fun _ h => ⟨h.at 4 rfl, h.rd 3 rfl⟩) ?_
          refine t_all2 10 14 (by kernel_rfl) I I I I ?_ ?_ 
          · refine e_q I I (q_b2s (l := [97 + (i : Int)]) I U23 U5 U9 I (fun _ h => lit_rd (h.at 1 I) (encI .u8) [97 + (i : Int)] I I)) (t_held (fun _ h => ⟨h.at 4 rfl, h.rd 3 rfl⟩) (t_q (blind_block (blind_then (blind_then (blind_block (blind_then blind_body))))) 11 I I (by kernel_rfl) (by kernel_rfl) (by kernel_rfl) (fun _ h => ⟨h.at 4 rfl, h.rd 3 rfl⟩) I (q_addS I I I (by rw [strOf_size]; exact Nat.le_of_ble_eq_true I)) I I (t_all1 14 (by kernel_rfl) I I (e_q I I (q_b2s (l := (List.replicate n 0)) I U23 U5 U9 I (Hrd 0 I)) (t_held (fun _ h => ⟨h.at 4 rfl, h.rd 3 rfl⟩) (t_q (blind_block (blind_then (blind_then (blind_block (blind_then blind_body))))) 15 I I (by kernel_rfl) (by kernel_rfl) (by kernel_rfl) (fun _ h => ⟨h.at 4 rfl, h.rd 3 rfl⟩) I (q_build ((fOp n i).c) I I (build43 _ _)) I I (t_all1 16 (by kernel_rfl) I I (e_buildSliceV (sz := 4) [.tmp 38] I I I I I U40 Z43 I zeroValue43 I ?_))))))))
            intro b2
            refine t_held (fun _ h => ⟨h.at 5 rfl, h.rd 4 rfl⟩) (pull3 (t_all1 17 (by kernel_rfl) I I (e_append I I I U40 U40 info43 I I I I I (fun _ h => lit_rd (h.at 1 I) Opn.enc [fOp n i] I I) (by simp only [byt43, fOps_len, List.length_cons, List.length_nil]; omega) (by simp only [fOps_len, List.length_cons, List.length_nil]; omega) ?_)))
            intro v2
            refine t_held (fun _ h => ⟨h.at 5 rfl, h.rd 4 rfl⟩) (t_all1 18 (by kernel_rfl) I I (e_q I I (q_indexV 0 I U25 Z40 I (Hrd 4 I) I I (by omega)) (t_tail I (row_eq (fOps_next n i) (Pre.fact (fun _ h => rd_sv (h.rd 0 I)) ?_)))))
            rintro ⟨s2, rfl⟩
            refine pull4 (t_all1 19 (by kernel_rfl) I I (e_storeV 0 0 (s2) I I Z40 I I I I (by decide) I (t_tail I (t_nil (by kernel_rfl) (k_block (pull2 (drop0 (pull3 (drop0 (pull2 (drop0 (pull2 (pull1 (pull2 ?_))))))))))))))
            exact k_meet (s2) trivial (Sub.cons I (Sub.cons I (Sub.cons I (Sub.cons I (Sub.nil))))) (fun _ h => h)
          · refine e_q I I (q_b2s (l := (List.replicate n 0)) I U23 U5 U9 I (Hrd 0 I)) (t_held (fun _ h => ⟨h.at 4 rfl, h.rd 3 rfl⟩) (t_all1 10 (by kernel_rfl) I I (e_q I I (q_b2s (l := [97 + (i : Int)]) I U23 U5 U9 I (fun _ h => lit_rd (h.at 1 I) (encI .u8) [97 + (i : Int)] I I)) (t_held (fun _ h => ⟨h.at 4 rfl, h.rd 3 rfl⟩) (t_q (blind_block (blind_then (blind_then (blind_block (blind_then blind_body))))) 11 I I (by kernel_rfl) (by kernel_rfl) (by kernel_rfl) (fun _ h => ⟨h.at 4 rfl, h.rd 3 rfl⟩) I (q_addS I I I (by rw [strOf_size]; exact Nat.le_of_ble_eq_true I)) I I (t_q (blind_block (blind_then (blind_then (blind_block (blind_then blind_body))))) 15 I I (by kernel_rfl) (by kernel_rfl) (by kernel_rfl) (fun _ h => ⟨h.at 4 rfl, h.rd 3 rfl⟩) I (q_build ((fOp n i).c) I I (build43 _ _)) I I (t_all1 16 (by kernel_rfl) I I (e_buildSliceV (sz := 4) [.tmp 38] I I I I I U40 Z43 I zeroValue43 I ?_))))))))
            intro b2
            refine t_held (fun _ h => ⟨h.at 5 rfl, h.rd 4 rfl⟩) (pull3 (t_all1 17 (by kernel_rfl) I I (e_append I I I U40 U40 info43 I I I I I (fun _ h => lit_rd (h.at 1 I) Opn.enc [fOp n i] I I) (by simp only [byt43, fOps_len, List.length_cons, List.length_nil]; omega) (by simp only [fOps_len, List.length_cons, List.length_nil]; omega) ?_)))
            intro v2
            refine t_held (fun _ h => ⟨h.at 5 rfl, h.rd 4 rfl⟩) (t_all1 18 (by kernel_rfl) I I (e_q I I (q_indexV 0 I U25 Z40 I (Hrd 4 I) I I (by omega)) (t_tail I (row_eq (fOps_next n i) (Pre.fact (fun _ h => rd_sv (h.rd 0 I)) ?_)))))
            rintro ⟨s2, rfl⟩
            refine pull4 (t_all1 19 (by kernel_rfl) I I (e_storeV 0 0 (s2) I I Z40 I I I I (by decide) I (t_tail I (t_nil (by kernel_rfl) (k_block (pull2 (drop0 (pull3 (drop0 (pull2 (drop0 (pull2 (pull1 (pull2 ?_))))))))))))))
            exact k_meet (s2) trivial (Sub.cons I (Sub.cons I (Sub.cons I (Sub.cons I (Sub.nil))))) (fun _ h => h)
      · refine e_makeSlice (encI .u8) 0 n I I I U23 info5 I I I I I I I (by simp only [byt5]; omega) (by omega) ?_
        intro mv
        refine t_held (fun _ h => ⟨h.at 3 rfl, h.rd 2 rfl⟩) ?_
        refine t_all2 9 14 (by kernel_rfl) I I I I ?_ ?_ 
        · refine e_buildSliceV (sz := 1) [.tmp 31] I I I I I U23 Z5 I zeroValue5 I ?_
          intro b1
          refine t_held (fun _ h => ⟨h.at 4 rfl, h.rd 3 rfl⟩) ?_
          refine t_all2 10 14 (by kernel_rfl) I I I I ?_ ?_ 
          · refine e_q I I (q_b2s (l := [97 + (i : Int)]) I U23 U5 U9 I (fun _ h => lit_rd (h.at 0 I) (encI .u8) [97 + (i : Int)] I I)) (t_held (fun _ h => ⟨h.at 4 rfl, h.rd 3 rfl⟩) (t_q (blind_block (blind_then (blind_then (blind_block (blind_then blind_body))))) 11 I I (by kernel_rfl) (by kernel_rfl) (by kernel_rfl) (fun _ h => ⟨h.at 4 rfl, h.rd 3 rfl⟩) I (q_addS I I I (by rw [strOf_size]; exact Nat.le_of_ble_eq_true I)) I I (t_all1 14 (by kernel_rfl) I I (e_q I I (q_b2s (l := (List.replicate n 0)) I U23 U5 U9 I (Hrd 1 I)) (t_held (fun _ h => ⟨h.at 4 rfl, h.rd 3 rfl⟩) (t_q (blind_block (blind_then (blind_then (blind_block (blind_then blind_body))))) 15 I I (by kernel_rfl) (by kernel_rfl) (by kernel_rfl) (fun _ h => ⟨h.at 4 rfl, h.rd 3 rfl⟩) I (q_build ((fOp n i).c) I I (build43 _ _)) I I (t_all1 16 (by kernel_rfl) I I (e_buildSliceV (sz := 4) [.tmp 38] I I I I I U40 Z43 I zeroValue43 I ?_))))))))
            intro b2
            refine t_held (fun _ h => ⟨h.at 5 rfl, h.rd 4 rfl⟩) (pull3 (t_all1 17 (by kernel_rfl) I I (e_append I I I U40 U40 info43 I I I I I (fun _ h => lit_rd (h.at 1 I) Opn.enc [fOp n i] I I) (by simp only [byt43, fOps_len, List.length_cons, List.length_nil]; omega) (by simp only [fOps_len, List.length_cons, List.length_nil]; omega) ?_)))
            intro v2
            refine t_held (fun _ h => ⟨h.at 5 rfl, h.rd 4 rfl⟩) (t_all1 18 (by kernel_rfl) I I (e_q I I (q_indexV 0 I U25 Z40 I (Hrd 4 I) I I (by omega)) (t_tail I (row_eq (fOps_next n i) (Pre.fact (fun _ h => rd_sv (h.rd 0 I)) ?_)))))
            rintro ⟨s2, rfl⟩
            refine pull4 (t_all1 19 (by kernel_rfl) I I (e_storeV 0 0 (s2) I I Z40 I I I I (by decide) I (t_tail I (t_nil (by kernel_rfl) (k_block (pull2 (drop0 (pull2 (drop0 (pull2 (drop0 (pull2 (pull1 (pull2 ?_))))))))))))))
            exact k_meet (s2) trivial (Sub.cons I (Sub.cons I (Sub.cons I (Sub.cons I (Sub.nil))))) (fun _ h => h)
          · refine e_q I I (q_b2s (l := (List.replicate n 0)) I U23 U5 U9 I (Hrd 1 I)) (t_held (fun _ h => ⟨h.at 4 rfl, h.rd 3 rfl⟩) (t_all1 10 (by kernel_rfl) I I (e_q I I (q_b2s (l := [97 + (i : Int)]) I U23 U5 U9 I (fun _ h => lit_rd (h.at 0 I) (encI .u8) [97 + (i : Int)] I I)) (t_held (fun _ h => ⟨h.at 4 rfl, h.rd 3 rfl⟩) (t_q (blind_block (blind_then (blind_then (blind_block (blind_then blind_body))))) 11 I I (by kernel_rfl) (by kernel_rfl) (by kernel_rfl) (fun _ h => ⟨h.at 4 rfl, h.rd 3 rfl⟩) I (q_addS I I I (by rw [strOf_size]; exact Nat.le_of_ble_eq_true I)) I I (t_q (blind_block (blind_then (blind_then (blind_block (blind_then blind_body))))) 15 I I (by kernel_rfl) (by kernel_rfl) (by kernel_rfl) (fun _ h => ⟨h.at 4 rfl, h.rd 3 rfl⟩) I (q_build ((fOp n i).c) I I (build43 _ _)) I I (t_all1 16 (by kernel_rfl) I I (e_buildSliceV (sz := 4) [.tmp 38] I I I I I U40 Z43 I zeroValue43 I ?_))))))))
            intro b2
            refine t_held (fun _ h => ⟨h.at 5 rfl, h.rd 4 rfl⟩) (pull3 (t_all1 17 (by kernel_rfl) I I (e_append I I I U40 U40 info43 I I I I I (fun _ h => lit_rd (h.at 1 I) Opn.enc [fOp n i] I I) (by simp only [byt43, fOps_len, List.length_cons, List.length_nil]; omega) (by simp only [fOps_len, List.length_cons, List.length_nil]; omega) ?_)))
            intro v2
            refine t_held (fun _ h => ⟨h.at 5 rfl, h.rd 4 rfl⟩) (t_all1 18 (by kernel_rfl) I I (e_q I I (q_indexV 0 I U25 Z40 I (Hrd 4 I) I I (by omega)) (t_tail I (row_eq (fOps_next n i) (Pre.fact (fun _ h => rd_sv (h.rd 0 I)) ?_)))))
            rintro ⟨s2, rfl⟩
            refine pull4 (t_all1 19 (by kernel_rfl) I I (e_storeV 0 0 (s2) I I Z40 I I I I (by decide) I (t_tail I (t_nil (by kernel_rfl) (k_block (pull2 (drop0 (pull2 (drop0 (pull2 (drop0 (pull2 (pull1 (pull2 ?_))))))))))))))
            exact k_meet (s2) trivial (Sub.cons I (Sub.cons I (Sub.cons I (Sub.cons I (Sub.nil))))) (fun _ h => h)
        · refine e_q I I (q_b2s (l := (List.replicate n 0)) I U23 U5 U9 I (Hrd 0 I)) (t_held (fun _ h => ⟨h.at 3 rfl, h.rd 2 rfl⟩) (t_all1 9 (by kernel_rfl) I I (e_buildSliceV (sz := 1) [.tmp 31] I I I I I U23 Z5 I zeroValue5 I ?_)))
          intro b1
          refine t_held (fun _ h => ⟨h.at 4 rfl, h.rd 3 rfl⟩) (t_all1 10 (by kernel_rfl) I I (e_q I I (q_b2s (l := [97 + (i : Int)]) I U23 U5 U9 I (fun _ h => lit_rd (h.at 0 I) (encI .u8) [97 + (i : Int)] I I)) (t_held (fun _ h => ⟨h.at 4 rfl, h.rd 3 rfl⟩) (t_q (blind_block (blind_then (blind_then (blind_block (blind_then blind_body))))) 11 I I (by kernel_rfl) (by kernel_rfl) (by kernel_rfl) (fun _ h => ⟨h.at 4 rfl, h.rd 3 rfl⟩) I (q_addS I I I (by rw [strOf_size]; exact Nat.le_of_ble_eq_true I)) I I (t_q (blind_block (blind_then (blind_then (blind_block (blind_then blind_body))))) 15 I I (by kernel_rfl) (by kernel_rfl) (by kernel_rfl) (fun _ h => ⟨h.at 4 rfl, h.rd 3 rfl⟩) I (q_build ((fOp n i).c) I I (build43 _ _)) I I (t_all1 16 (by kernel_rfl) I I (e_buildSliceV (sz := 4) [.tmp 38] I I I I I U40 Z43 I zeroValue43 I ?_)))))))
          intro b2
          refine t_held (fun _ h => ⟨h.at 5 rfl, h.rd 4 rfl⟩) (pull3 (t_all1 17 (by kernel_rfl) I I (e_append I I I U40 U40 info43 I I I I I (fun _ h => lit_rd (h.at 1 I) Opn.enc [fOp n i] I I) (by simp only [byt43, fOps_len, List.length_cons, List.length_nil]; omega) (by simp only [fOps_len, List.length_cons, List.length_nil]; omega) ?_)))
          intro v2
          refine t_held (fun _ h => ⟨h.at 5 rfl, h.rd 4 rfl⟩) (t_all1 18 (by kernel_rfl) I I (e_q I I (q_indexV 0 I U25 Z40 I (Hrd 4 I) I I (by omega)) (t_tail I (row_eq (fOps_next n i) (Pre.fact (fun _ h => rd_sv (h.rd 0 I)) ?_)))))
          rintro ⟨s2, rfl⟩
          refine pull4 (t_all1 19 (by kernel_rfl) I I (e_storeV 0 0 (s2) I I Z40 I I I I (by decide) I (t_tail I (t_nil (by kernel_rfl) (k_block (pull2 (drop0 (pull2 (drop0 (pull2 (drop0 (pull2 (pull1 (pull2 ?_))))))))))))))
          exact k_meet (s2) trivial (Sub.cons I (Sub.cons I (Sub.cons I (Sub.cons I (Sub.nil))))) (fun _ h => h)
    · intro s2 _
      refine Cr I (Lm I (Lq I (q_inc I I I (by omega)) (Las I (l_nil ?_))))
      exact k_round ((i + 1, s2)) (by dsimp only; omega) (by dsimp only; omega) (Sub.cons I (Sub.cons I (Sub.cons I (Sub.cons I (Sub.nil))))) (fun _ h => h)
  · try simp only [B4] at hlt
    have hi22 : i = 22 := by omega
    subst hi22
    refine c_false I (c_exit (k_then_exit (k_then_exit (k_block_exit (Kt (Cs I (Lq I (q_loadCAgg _ I isAgg27 sizeOf27 I (Hat 2 I) I I) (l_e I (e_callH [_, _, _] (HA := []) (hhnew (vs := [s]) (ls := [fOps n 22]) (nb := 1) (nf := 5) (fl := 0) (by decide) (by decide) (by decide) (Nat.le_refl 1) (show 1 ≤ 4 by decide) (show 4 * (1 + 0) < 5 by decide) (by decide) (fun l hl => by rw [List.mem_singleton.1 hl, fOps_len]; decide) (fun l hl o ho => by rw [List.mem_singleton.1 hl] at ho; have := (fOps_ok hn17 22 o ho).2; omega)) I I I call18 I (fun _ h => rro1 (h.rd 1 I) (h.rd 0 I)) ?_)))))))))
    intro z hz
    refine Lm I (Lq I (q_extract I I I) (Lq I (q_extract I I I) (Las I (Ak I (c_seq (Cs I (Lm I (Lq I (q_neq I I I) (Lm I (drop0 (drop0 (drop0 (Sb 49 false I (I) (Lm I (Lq I (q_eqp I underlying24 I I) (Lq I (q_pick_f I I I) (Lm I (Sb 53 false I (I) (Lm I (l_e I (e_callH [] (zhall hz) I I I call19 I Tt ?_)))))))))))))))))))))
    intro _ _
    refine Pre.world (St _ _ (HC.H z (f0 n))) Ih ?_
    refine Lq I (q_eqp I underlying47 I I) (Lq I (q_pick_f I I I) (Nk (Sb 57 false I (I) (c_false I (c_skip (Ks (Cs I (Ak I (c_block ?_)))))))))
    refine Pre.world (St w [] (HC.H z (runF 0 (f0 n)))) Ih ?_
    refine c_loop2 (fun (i : Nat) (z : HC) => [(1, vp), (6, .int .i64 (n : Int)), (8, ptV z.bH), (10, .int .i64 (i : Int))]) (fun (i : Nat) (z : HC) => St w [] (HC.H z (runF i (f0 n)))) (fun (i : Nat) (z : HC) => i ≤ 198 ∧ HOk z (runF i (f0 n)) (2 * i)) (fun (i : Nat) (z : HC) => 198 - i) (0) (z) ⟨by decide, hz⟩ (Sn I (Sn I (Sn I (Sn I (Sub.nil))))) Ih ?_
    intro i z hp
    refine c_seq (c_seq ?_)
    obtain ⟨hi, hk⟩ := hp
    obtain ⟨r1, r2, r3⟩ := full_run hn17 i hi
    refine Cr I (Lm I (Lq I (q_lss I I I) (Lm I (Sb 60 true I (decide_eq_true (by omega)) (Lm I (l_e I (e_callH [] (zended hk) I I I call12 I Tt ?_)))))))
    intro _ _
    refine Pre.world (St _ _ (HC.H z (runF i (f0 n)))) Ih ?_
    refine Lq I (q_not I I) (Lq I (q_pick_t I I I) (Nk ?_))
    refine Pre.caseB 64 I (fun hend => ?_) (fun hend => ?_)
    · try simp only [B4] at hend
      have hi2 : i < 198 := Nat.lt_of_le_of_ne hi (fun e => by subst e; rw [(full_end hn17).1] at hend; cases hend)
      refine c_true I (c_skip (Ks (c_block (Cr I (Lm I (Lm I (Lm I (Lm I (l_e I (e_callH [] (zfair hk picks hpl i (by omega)) I I I call14 I (fun _ h => hE.keep h (by simp)) ?_))))))))))
      intro pk _
      refine Pre.world (St _ _ (HC.H z (runF i (f0 n)))) Ih ?_
      refine l_e I (e_callH [] (hstep hk (by omega) (by omega) r1.preH pk) I I I call13 I Tt ?_)
      rintro y ⟨hy1, hy2⟩
      refine Pre.world (St _ _ (HC.H y (stepH (runF i (f0 n)) pk))) Ih ?_
      refine l_nil (k_block (Kt (Cr I (Lm I (Lq I (q_inc I I I (by omega)) (Las I (l_nil ?_)))))))
      rw [full_next hn17 hi pk] at hy2 ⊢
      refine Sv' 8 (ptV y.bH) I (by rw [hy1]) ?_
      exact k_round ((i + 1, y)) (by dsimp only; omega) ⟨by dsimp only; omega, hy2⟩ (Sub.cons I (Sub.cons I (Sub.cons I (Sub.cons I (Sub.nil))))) (fun _ h => h)
    · try simp only [B4] at hend
      have hf := full_end hn17
      rw [full_at hn17 hi hend] at hf
      obtain ⟨f1, f2, f3, f4⟩ := hf
      refine c_false I (c_exit (k_then_exit (k_then_exit (k_block_exit (Kt (Cs I (Lm I (l_e I (e_callH [] (zevents hk) I I I call15 I Tt ?_)))))))))
      intro ve _
      refine Pre.world (St _ _ (_ :: HC.H z (runF i (f0 n)))) Ih ?_
      refine Ak I (Cs I (Lm I (Lq I (q_add64 I I I (by omega)) (Lq I (q_quo_nn I I I (by omega) (by omega) (by omega)) (Lq I (q_min I I I) (Ak I (c_seq (Cs I (Lm I (Lq I (q_lenV I U34 I (Hrd 0 I)) (Lq I (q_neq I I I) (Lm I (Sv' 12 (.int .i64 ((fits n : Nat) : Int)) I (by rw [fit_val]) (Sb 82 false I (by simp [f2]) (Lm I (l_e I (e_callH [_] (zhall hk) I I I call19 I Tt ?_)))))))))))))))))
      intro _ _
      refine Pre.world (St _ _ (_ :: HC.H z (runF i (f0 n)))) Ih ?_
      refine l_e I (e_callH [_] (zmap hk) I I I call20 I Tt ?_)
      intro vm _
      refine Pre.world (St _ _ (_ :: _ :: HC.H z (runF i (f0 n)))) Ih ?_
      refine Lq I (q_lenV I U49 I (Hrd 1 I)) (Lm I (Lq I (q_neq I I I) (Lq I (q_pick_f I I I) (Nk (Sb 89 false I (by simp [f3]) (c_false I (c_skip (Ks (Cs I (Ak I (c_block (pull1 (drop0 ?_)))))))))))))
      refine c_loop1 (fun (j : Nat) => [(11, ve), (12, .int .i64 ((fits n : Nat) : Int)), (13, .int .i64 (j : Int))]) (fun (j : Nat) => St w [] (rowE ve 71 Evt.enc (runF i (f0 n)).ev :: HC.H z (runF i (f0 n)))) (fun (j : Nat) => j ≤ 22) (fun (j : Nat) => 22 - j) (0) (Nat.zero_le _) (Sn I (Sn I (Sn I (Sub.nil)))) Ih ?_
      intro j hj
      refine c_seq (Cs I (Lm I (Lq I (q_lss I I I) (Nk ?_))))
      refine Pre.caseB 91 I (fun hjl => ?_) (fun hjl => ?_)
      · try simp only [B4] at hjl
        have hj22 : j < 22 := by omega
        obtain ⟨e, he, he2⟩ := f4 j hj22
        have he3 : decide (e.a.code = 0) = decide ((j : Int) < ((fits n : Nat) : Int)) := by rw [he2]; exact decide_eq_decide.2 (by omega)
        refine c_true I (c_skip (Ks (c_block (Cs I (Lm I (Lm I (Lq I (q_mul64 I I I (by omega)) (Lq I (q_add64 I I I (by omega)) (Lq I (q_indexV (2 * j + 1) I U34 Z71 I (Hrd 0 I) I (by omega) (by omega)) (Lfa underlying71 I sizeOf58 I (Lfa underlying58 I Z44 I (Lq I (q_loadV (2 * j + 1) 3 I G44 I I (Hrd 0 I) he I) (Lq I (q_eql I I I) (Lm I (Lm I (Lq I (q_lss I I I) (Lq I (q_neb I underlying4 I I) (Nk (Sb 106 false I (by rw [he3]; exact bne_self_eq_false _) (c_false I (c_skip (k_block (Kt ?_)))))))))))))))))))))))
        refine Cr I (Lm I (Lq I (q_inc I I I (by omega)) (Las I (l_nil ?_))))
        exact k_round (j + 1) (by omega) (by omega) (Sub.cons I (Sub.cons I (Sub.cons I (Sub.nil)))) (fun _ h => h)
      · try simp only [B4] at hjl
        refine c_false I (c_exit (k_then_exit (k_then_exit (k_block_exit (Kt (Cs I (l_e I (e_call_00 (awake_spec) I I I call17 I Tt ?_))))))))
        intro _ _
        refine Ak I (c_ret (r_one I I ?_))
        exact fun _ h => ⟨(), rfl, trivial, h.nothing⟩
theorem topFull_walk (w : World) (a0 : Int) (w0 : (Lit.int .u8 a0).wf = true) (A1 : Option Addr) (c1 : Nat) (z1 : List Int) (rd1 : Rd w w.heap.size A1 (z1.map (.int .u8))) (l1 : z1.length ≤ c1) (m1 : c1 ≤ maxLen) (w1 : ∀ z ∈ z1, (Lit.int .u8 z).wf = true) :
    Calls Tryz.prog 9 #[.int .u8 a0, .slice A1 z1.length c1] w fun e w' => e = .returned (.bool true) ∧ Below w.heap.size w w' := by
  rw [← flat_u8] at rd1
  exact con_walk (full_spec a0 w0 z1 (Nat.le_trans l1 (Nat.le_trans m1 (Nat.le_refl _)))) (rdv_of rd1 l1)
end Go.Proofs.YtloldofjddbjoaaGreat
