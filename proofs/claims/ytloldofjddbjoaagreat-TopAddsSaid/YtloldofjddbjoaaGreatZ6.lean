/- Part 6 of the proof: texts of my own, laid behind one another. No condition. -/
import Derived.Test.YtloldofjddbjoaaGreatZ5
set_option linter.unusedVariables false
set_option linter.unusedSimpArgs false
set_option maxHeartbeats 8000000
set_option maxRecDepth 100000
namespace Go.Proofs.YtloldofjddbjoaaGreat
open Go.Sep Go.RowKit Tryz
theorem Inv0.pin {m : HM} (h : Inv0 m) {t : Nat} {c : Cl} (hc : m.cs[t]? = some c) (hpre : preC (t : Int) m.L c) {c' : Cl} (e : stepC (t : Int) m.L c = ((m.L.pin t).2, c', false, [])) (hph : c.ph = .rd 1 ∧ c'.ph = .rd (if (m.L.pin t).1 = 3 then 2 else 3) ∨ c.ph = .wr 0 ∧ c'.ph = .wr (if (m.L.pin t).1 = 3 then 1 else 2)) : Inv0 (m.client t) := by
  have hnh : ¬ holdP c.ph := by
    rintro (h1 | h1 | ⟨a, h1⟩) <;> rcases hph with ⟨h2, _⟩ | ⟨h2, _⟩ <;> rw [h2] at h1 <;> cases h1
  have h3 : c.ph ≠ .rd 3 := by rcases hph with ⟨h2, _⟩ | ⟨h2, _⟩ <;> rw [h2] <;> simp
  have h4 : c.ph ≠ .wr 2 := by rcases hph with ⟨h2, _⟩ | ⟨h2, _⟩ <;> rw [h2] <;> simp
  have h5 : c.ph ≠ .rd 2 ∧ c.ph ≠ .wr 1 := by rcases hph with ⟨h2, _⟩ | ⟨h2, _⟩ <;> rw [h2] <;> simp
  have h6 : ∀ a, c.ph ≠ .rm a := by intro a; rcases hph with ⟨h2, _⟩ | ⟨h2, _⟩ <;> rw [h2] <;> simp
  have hla : (m.L.pin (t : Int)).2.la = m.L.la := by unfold Lf.pin; split <;> (try split) <;> rfl
  have hcl : (m.L.pin (t : Int)).2.cl = m.L.cl := by unfold Lf.pin; split <;> (try split) <;> rfl
  refine h.mk' hc e hpre (fun u _ _ => pin_pres u m.L t) (h.lok.pin_ok t) (by rw [hla]; exact h.la) (by rw [hla]; exact h.sb) ?_ ?_ ?_ ?_ (fun u hu => .inr ⟨by rw [hla] at hu; exact hu, h.nh hc hnh u (by rw [hla] at hu; exact hu)⟩) (.inr (.inr ⟨hcl, h6⟩))
  · rcases h.lok.st3 with h0 | h0 | h0
    · have hp : m.L.pin (t : Int) = (3, { m.L with r := ⟨1, 0, 0, 1, true, false, nd0⟩, rt := some (t : Int) }) := by unfold Lf.pin; rw [if_pos h0]
      rw [hp] at hph ⊢
      rcases hph with ⟨_, h2⟩ | ⟨_, h2⟩ <;> (unfold CI; rw [h2]; exact ⟨rfl, rfl⟩)
    · have hp : m.L.pin (t : Int) = (2, { m.L with r := { m.L.r with pins := m.L.r.pins + 1, ref := true }, ld := m.L.ld ++ [(t : Int)] }) := by unfold Lf.pin; rw [if_neg (by omega), if_neg (by omega)]
      rw [hp] at hph ⊢
      rcases hph with ⟨_, h2⟩ | ⟨_, h2⟩ <;> (unfold CI; rw [h2]; exact .inr ⟨h0, List.mem_append_right _ (by simp)⟩)
    · have hp : m.L.pin (t : Int) = (1, { m.L with r := { m.L.r with pins := m.L.r.pins + 1, ref := true } }) := by unfold Lf.pin; rw [if_neg (by omega), if_pos h0]
      rw [hp] at hph ⊢
      rcases hph with ⟨_, h2⟩ | ⟨_, h2⟩ <;> (unfold CI; rw [h2]; exact .inl h0)
  · intro hs
    rcases h.lok.st3 with h0 | h0 | h0
    · exact absurd (by unfold Lf.pin; rw [if_pos h0]) hs
    · exact absurd (by unfold Lf.pin; rw [if_neg (by omega), if_neg (by omega)]; exact h0) hs
    · have hp : m.L.pin (t : Int) = (1, { m.L with r := { m.L.r with pins := m.L.r.pins + 1, ref := true } }) := by unfold Lf.pin; rw [if_neg (by omega), if_pos h0]
      rw [hp]; exact h.ld0 (by omega)
  · intro u hu
    rcases h.lok.st3 with h0 | h0 | h0
    · have hp : m.L.pin (t : Int) = (3, { m.L with r := ⟨1, 0, 0, 1, true, false, nd0⟩, rt := some (t : Int) }) := by unfold Lf.pin; rw [if_pos h0]
      rw [hp] at hu; exact .inr ⟨hu, h.nl hc h3 h4 u hu⟩
    · have hp : m.L.pin (t : Int) = (2, { m.L with r := { m.L.r with pins := m.L.r.pins + 1, ref := true }, ld := m.L.ld ++ [(t : Int)] }) := by unfold Lf.pin; rw [if_neg (by omega), if_neg (by omega)]
      rw [hp] at hu hph
      rcases List.mem_append.1 (show u ∈ m.L.ld ++ [(t : Int)] from hu) with hu | hu
      · exact .inr ⟨hu, h.nl hc h3 h4 u hu⟩
      · simp at hu
        exact .inl ⟨hu, by rcases hph with ⟨_, h2⟩ | ⟨_, h2⟩ <;> rw [h2] <;> simp⟩
    · have hp : m.L.pin (t : Int) = (1, { m.L with r := { m.L.r with pins := m.L.r.pins + 1, ref := true } }) := by unfold Lf.pin; rw [if_neg (by omega), if_pos h0]
      rw [hp] at hu; exact .inr ⟨hu, h.nl hc h3 h4 u hu⟩
  · intro hs
    rcases h.lok.st3 with h0 | h0 | h0
    · have hp : m.L.pin (t : Int) = (3, { m.L with r := ⟨1, 0, 0, 1, true, false, nd0⟩, rt := some (t : Int) }) := by unfold Lf.pin; rw [if_pos h0]
      rw [hp] at hph
      exact .inl (by rcases hph with ⟨_, h2⟩ | ⟨_, h2⟩ <;> rw [h2] <;> simp)
    · exact .inr ⟨h0, h5⟩
    · exact absurd hs (by unfold Lf.pin; rw [if_neg (by omega), if_pos h0]; show ¬ m.L.r.st = 1; omega)
theorem Inv0.fill {m : HM} (h : Inv0 m) {t : Nat} {c : Cl} (hc : m.cs[t]? = some c) (hpre : preC (t : Int) m.L c) {c' : Cl} (e : stepC (t : Int) m.L c = (m.L.fill, c', false, [])) (hr : m.L.rt = some (t : Int)) (h1 : m.L.r.st = 1) (hph : c.ph = .rd 2 ∧ c'.ph = .rd 3 ∨ c.ph = .wr 1 ∧ c'.ph = .wr 2) : Inv0 (m.client t) := by
  have hno : ∀ u, u ∉ Lt.tasks m.L.la := fun u hu => by have := h.hold2 hu; omega
  have h6 : ∀ a, c.ph ≠ .rm a := by intro a; rcases hph with ⟨h2, _⟩ | ⟨h2, _⟩ <;> rw [h2] <;> simp
  refine h.mk' hc e hpre (fun u hu h0 => ⟨fun _ => rfl, fun _ => .inr ⟨rfl, by rw [hr]; simpa using hu.symm⟩, fun _ h => .inl h, id, id, fun hw _ => absurd (wr_tasks h0 hw) (hno u), rfl⟩) (h.lok.fill_ok h1) h.la h.sb ?_ (fun _ => rfl) (fun u hu => by cases hu) (fun hs => by cases hs) (fun u hu => absurd hu (hno u)) (.inr (.inr ⟨rfl, h6⟩))
  rcases hph with ⟨_, h2⟩ | ⟨_, h2⟩ <;> (unfold CI; rw [h2]; exact .inl rfl)
theorem Inv0.take {m : HM} (h : Inv0 m) {t : Nat} {c : Cl} (hc : m.cs[t]? = some c) (hpre : preC (t : Int) m.L c) {c' : Cl} {w : Bool} (e : stepC (t : Int) m.L c = (m.L.take t w, c', false, [])) (h2 : m.L.r.st = 2) (hph : c.ph = .rd 3 ∧ c'.ph = .rd 5 ∧ w = false ∨ c.ph = .wr 2 ∧ c'.ph = .wr 3 ∧ w = true) : Inv0 (m.client t) := by
  obtain ⟨n, hn⟩ := h.la
  have hnh : ¬ holdP c.ph := by
    rintro (h1 | h1 | ⟨a, h1⟩) <;> rcases hph with ⟨h2, _⟩ | ⟨h2, _⟩ <;> rw [h2] at h1 <;> cases h1
  have h6 : ∀ a, c.ph ≠ .rm a := by intro a; rcases hph with ⟨h2, _⟩ | ⟨h2, _⟩ <;> rw [h2] <;> simp
  have hself := Lt.take_self (m := m.L.la) (t := (t : Int)) (by omega) (fun hu => h.nh hc hnh _ hu rfl) hn.toOk0 w
  refine h.mk' hc e hpre (fun u hu h0 => ⟨id, fun h => by omega, fun b hb => .inl (Lt.take_q hb), Lt.take_rd, Lt.take_wr (by omega), fun _ _ => ⟨rfl, rfl, rfl⟩, rfl⟩) (h.lok.la _) ⟨n + 1, Lt.take_ok hn t w⟩ (Lt.take_stable h.sb t w) ?_ (fun hs => h.ld0 (by omega)) (fun u hu => by rw [show (m.L.take (t : Int) w).ld = m.L.ld from rfl, h.ld0 (by omega)] at hu; cases hu) (fun hs => by have : m.L.r.st = 1 := hs; omega) (fun u hu => ?_) (.inr (.inr ⟨rfl, h6⟩))
  · rcases hph with ⟨_, h3, rfl⟩ | ⟨_, h3, rfl⟩
    · unfold CI; rw [h3]; exact ⟨h2, hself⟩
    · unfold CI; rw [h3]; exact ⟨h2, hself⟩
  · rcases Lt.take_tasks (by omega) hu with h3 | h3
    · exact .inl ⟨h3, by rcases hph with ⟨_, h3, _⟩ | ⟨_, h3, _⟩ <;> rw [h3] <;> simp [holdP]⟩
    · exact .inr ⟨h3, h.nh hc hnh u h3⟩
theorem Inv0.leave {m : HM} (h : Inv0 m) {t : Nat} {c : Cl} (hc : m.cs[t]? = some c) (hpre : preC (t : Int) m.L c) {b : Bool} {evs : List Evt} {L1 : Lf} (e : stepC (t : Int) m.L c = (L1.leave t, c.done, b, evs)) (h2 : m.L.r.st = 2) (hh : holdP c.ph) (hL : L1.Ok) (hs1 : L1.r.st = 2) (hla : L1.la = m.L.la) (hld : L1.ld = m.L.ld) (hs : L1.s = m.L.s) (hw : ∀ u : Int, u ≠ (t : Int) → m.L.la.wr = u → 0 ≤ u → L1.cl = m.L.cl ∧ L1.ct = m.L.ct ∧ L1.r.nd = m.L.r.nd) (hcl : L1.cl = 0 ∨ (L1.cl = m.L.cl ∧ ∀ a, c.ph ≠ .rm a)) : Inv0 (m.client t) := by
  obtain ⟨n, hn⟩ := h.la
  have hun : ∀ L : Lf, L.unpin.la = L.la ∧ L.unpin.ld = L.ld ∧ L.unpin.s = L.s ∧ L.unpin.cl = L.cl ∧ L.unpin.ct = L.ct ∧ L.unpin.r.nd = L.r.nd ∧ L.unpin.r.st = L.r.st := fun L => by
    unfold Lf.unpin; split <;> exact ⟨rfl, rfl, rfl, rfl, rfl, rfl, rfl⟩
  obtain ⟨a1, a2, a3, a4, a5, a6, a7⟩ := hun (L1.drop (t : Int))
  have l1 : (L1.leave (t : Int)).la = (Lt.dropL m.L.la t).2 := by show (L1.drop (t : Int)).unpin.la = _; rw [a1, ← hla]; rfl
  have l2 : (L1.leave (t : Int)).ld = m.L.ld := by show (L1.drop (t : Int)).unpin.ld = _; rw [a2, ← hld]; rfl
  have l3 : (L1.leave (t : Int)).r.st = 2 := by show (L1.drop (t : Int)).unpin.r.st = _; rw [a7]; exact hs1
  have l4 : (L1.leave (t : Int)).cl = L1.cl := by show (L1.drop (t : Int)).unpin.cl = _; rw [a4]; rfl
  refine h.mk' hc e hpre (fun u hu h0 => ⟨fun _ => l3, fun h => by omega, fun b hb => by rw [l1]; exact Lt.drop_q (by omega) (by omega) hu hb, fun hb => by rw [l1]; exact Lt.drop_rd (by omega) hu hb, fun hb => by rw [l1]; exact Lt.drop_wr (by omega) (by omega) hu hb, fun hb _ => ?_, ?_⟩) (Lf.Ok.unpin_ok (hL.la _)) (by rw [l1]; exact ⟨n, Lt.drop_ok hn t⟩) (by rw [l1]; exact Lt.drop_stable (by omega)) trivial (fun _ => by rw [l2]; exact h.ld0 (by omega)) (fun u hu => by rw [l2, h.ld0 (by omega)] at hu; cases hu) (fun hs => by rw [l3] at hs; cases hs) (fun u hu => by rw [l1] at hu; have := Lt.drop_tasks hn (by omega) hu; exact .inr ⟨this.2, this.1⟩) ?_
  · obtain ⟨b1, b2, b3⟩ := hw u hu hb h0
    exact ⟨by rw [l4, b1], by show (L1.drop (t : Int)).unpin.ct = _; rw [a5]; exact b2, by show (L1.drop (t : Int)).unpin.r.nd = _; rw [a6]; exact b3⟩
  · show (L1.drop (t : Int)).unpin.s = _; rw [a3]; exact hs
  · rcases hcl with h3 | ⟨h3, h4⟩
    · exact .inl (by rw [l4]; exact h3)
    · exact .inr (.inr ⟨by rw [l4]; exact h3, h4⟩)
def Small (L : Lf) (c : Cl) : Prop := c.ph = .wr 3 → L.r.st = 2 → fitL (lfd (lput (lfe L) (mOf c.op))) = true ∨ (L.s.left < 2 ∧ 2 ≤ L.r.nd.es.length)
theorem op_mem {c : Cl} (h : c.nx < c.ops.length) : c.op ∈ c.ops := List.mem_of_getElem? (op_at h)
theorem may_q {L : Lf} {t : Int} (h : L.mayH t = true) : ∀ b, (t, b) ∉ L.la.q := fun b hb => by
  unfold Lf.mayH at h
  simp only [Bool.and_eq_true, Bool.not_eq_true', decide_eq_false_iff_not] at h
  exact h.1 (List.mem_map.2 ⟨_, hb, rfl⟩)
theorem Inv0.pre {m : HM} (h : Inv0 m) {t : Nat} {c : Cl} (hc : m.cs[t]? = some c) (hm : mayC (t : Int) m.L c = true) : preC (t : Int) m.L c ∧ (c.ph ≠ .idle → m.L.mayH (t : Int) = true) := by
  have hop := h.ops c (List.mem_of_getElem? hc)
  have hci := h.ci t c hc
  have hmay : c.ph ≠ .idle → m.L.mayH (t : Int) = true := fun hn => by
    unfold mayC at hm
    split at hm
    · rename_i e; exact absurd e hn
    · exact hm
  refine ⟨?_, hmay⟩
  unfold CI at hci
  unfold preC
  split
  · rename_i e
    unfold mayC at hm
    rw [e] at hm
    have h1 : c.nx < c.ops.length := by
      have h2 : ¬ c.nx = c.ops.length := by simpa using hm
      have := hop.2.1; omega
    exact ⟨h1, hop.1 _ (op_mem h1)⟩
  · trivial
  · rename_i e; rw [e] at hci; exact hci
  · rename_i e; rw [e] at hci
    rcases hci with h1 | ⟨_, h1⟩
    · exact h1
    · exact absurd h1 (may_ld (hmay (by rw [e]; simp)))
  · rename_i e; rw [e] at hci
    refine ⟨hci.1, ?_⟩
    rcases hci.2 with h1 | h1
    · exact absurd h1 (may_q (hmay (by rw [e]; simp)) _)
    · unfold hasB; rw [decide_eq_true h1, Bool.or_true]
  · rename_i e1 e2 e3 e4 e; rw [e] at hci
    split at hci <;> simp_all
  · trivial
  · rename_i e; rw [e] at hci; exact hci
  · rename_i e; rw [e] at hci
    rcases hci with h1 | ⟨_, h1⟩
    · exact h1
    · exact absurd h1 (may_ld (hmay (by rw [e]; simp)))
  · rename_i e; rw [e] at hci
    refine ⟨hci.1, ?_, kOf_ck (hop.1 _ (op_mem (hop.2.2 (by rw [e]; simp)))).1⟩
    rcases hci.2 with h1 | h1
    · exact absurd h1 (may_q (hmay (by rw [e]; simp)) _)
    · exact h1
  · rename_i e1 e2 e3 e4 e; rw [e] at hci
    split at hci <;> simp_all
  · rename_i e; rw [e] at hci; exact ⟨hci.1, hci.2.2.1⟩
  · rename_i e; rw [e] at hci; exact ⟨hci.1, .inl hci.2.2.1, by have h9 : m.L.cl = 0 := hci.2.2.1; omega⟩
  · rename_i e; rw [e] at hci; exact ⟨hci.1, .inr hci.2.2.2.1, by have h9 : m.L.cl = 1 := hci.2.2.1; omega⟩
  · rename_i e; rw [e] at hci; exact ⟨hci.1, hci.2.2.1, hci.2.2.2.1, hci.2.2.2.2, by unfold hasB; rw [decide_eq_true hci.2.1]; rfl⟩
  · rename_i e1 e2 e3 e4 e; rw [e] at hci
    split at hci <;> simp_all
theorem Inv0.same {m : HM} (h : Inv0 m) {t : Nat} {c : Cl} (hc : m.cs[t]? = some c) (hpre : preC (t : Int) m.L c) {c' : Cl} {b : Bool} {evs : List Evt} (e : stepC (t : Int) m.L c = (m.L, c', b, evs)) (hci : CI (t : Int) m.L c') (h1 : c.ph ≠ .rd 3) (h2 : c.ph ≠ .wr 2) (h3 : c.ph ≠ .rd 2 ∧ c.ph ≠ .wr 1) (h4 : holdP c.ph → holdP c'.ph) (h5 : m.L.cl = 0 ∨ (∃ a, c'.ph = .rm a) ∨ ∀ a, c.ph ≠ .rm a) : Inv0 (m.client t) :=
  h.mk' hc e hpre (fun u _ _ => Pres.refl u m.L) h.lok h.la h.sb hci h.ld0 (fun u hu => .inr ⟨hu, h.nl hc h1 h2 u hu⟩) (fun hs => .inr ⟨hs, h3⟩) (fun u hu => by
    by_cases hh : holdP c.ph
    · by_cases e : u = (t : Int)
      · exact .inl ⟨e, h4 hh⟩
      · exact .inr ⟨hu, e⟩
    · exact .inr ⟨hu, h.nh hc hh u hu⟩) (by
    rcases h5 with h5 | h5 | h5
    · exact .inl h5
    · exact .inr (.inl h5)
    · exact .inr (.inr ⟨rfl, h5⟩))
theorem Inv0.claim {m : HM} (h : Inv0 m) {t : Nat} {c : Cl} (hc : m.cs[t]? = some c) (hpre : preC (t : Int) m.L c) {c' : Cl} (e : stepC (t : Int) m.L c = (m.L.claim t, c', false, [])) (hw : m.L.la.wr = (t : Int)) (hs : m.L.r.st = 2) (h1 : m.L.cl ≤ 1) (hci : CI (t : Int) (m.L.claim t) c') (hr : ∃ a, c.ph = .rm a) (hr' : ∃ a, c'.ph = .rm a) : Inv0 (m.client t) := by
  obtain ⟨a, hr⟩ := hr
  obtain ⟨a', hr'⟩ := hr'
  refine h.mk' hc e hpre (fun u hu _ => ⟨id, fun h => .inl ⟨h, id, rfl⟩, fun _ h => .inl h, id, id, fun h _ => absurd (by rw [← h, hw]) hu, rfl⟩) (h.lok.claim_ok t h1) h.la h.sb hci h.ld0 (fun u hu => .inr ⟨hu, h.nl hc (by rw [hr]; simp) (by rw [hr]; simp) u hu⟩) (fun hs => .inr ⟨hs, by rw [hr]; simp, by rw [hr]; simp⟩) (fun u hu => ?_) (.inr (.inl ⟨a', hr'⟩))
  by_cases e : u = (t : Int)
  · exact .inl ⟨e, .inr (.inr ⟨a', hr'⟩)⟩
  · exact .inr ⟨hu, e⟩
theorem Inv0.client {m : HM} (h : Inv0 m) {t : Nat} {c : Cl} (hc : m.cs[t]? = some c) (hpre : preC (t : Int) m.L c) (hS : Small m.L c) : Inv0 (m.client t) := by
  have hci := h.ci t c hc
  obtain ⟨ops, nx, ph⟩ := c
  cases ph with
  | idle =>
    have e : stepC (t : Int) m.L ⟨ops, nx, .idle⟩ = (m.L, ⟨ops, nx, if (Cl.op ⟨ops, nx, .idle⟩).kind = 4 then .rd 1 else .wr 0⟩, false, [evB t ⟨ops, nx, .idle⟩]) := rfl
    refine h.same hc hpre e ?_ (by simp) (by simp) (by simp) (by rintro (h1 | h1 | ⟨a, h1⟩) <;> cases h1) (.inr (.inr (by simp)))
    unfold CI
    by_cases h4 : (Cl.op ⟨ops, nx, .idle⟩).kind = 4
    · simp only [h4, if_true]
    · simp only [h4, if_false]
  | rd a =>
    match a, hpre with
    | 1, hp => exact h.pin hc (c := ⟨ops, nx, .rd 1⟩) hp (c' := ⟨ops, nx, .rd (if (m.L.pin t).1 = 3 then 2 else 3)⟩) rfl (.inl ⟨rfl, rfl⟩)
    | 2, hp => exact h.fill hc (c := ⟨ops, nx, .rd 2⟩) hp (c' := ⟨ops, nx, .rd 3⟩) rfl hp.1 hp.2 (.inl ⟨rfl, rfl⟩)
    | 3, hp => exact h.take hc (c := ⟨ops, nx, .rd 3⟩) hp (c' := ⟨ops, nx, .rd 5⟩) (w := false) rfl hp (.inl ⟨rfl, rfl, rfl⟩)
    | 5, hp => exact h.leave hc (c := ⟨ops, nx, .rd 5⟩) hp (L1 := m.L) rfl hp.1 (.inl rfl) h.lok hp.1 rfl rfl rfl (fun _ _ _ _ => ⟨rfl, rfl, rfl⟩) (.inr ⟨rfl, by simp⟩)
  | wr a =>
    match a, hpre with
    | 0, hp => exact h.pin hc (c := ⟨ops, nx, .wr 0⟩) hp (c' := ⟨ops, nx, .wr (if (m.L.pin t).1 = 3 then 1 else 2)⟩) rfl (.inr ⟨rfl, rfl⟩)
    | 1, hp => exact h.fill hc (c := ⟨ops, nx, .wr 1⟩) hp (c' := ⟨ops, nx, .wr 2⟩) rfl hp.1 hp.2 (.inr ⟨rfl, rfl⟩)
    | 2, hp => exact h.take hc (c := ⟨ops, nx, .wr 2⟩) hp (c' := ⟨ops, nx, .wr 3⟩) (w := true) rfl hp (.inr ⟨rfl, rfl, rfl⟩)
    | 3, hp =>
      by_cases hf : fitL (lfd (lput (lfe m.L) (mOf (Cl.op ⟨ops, nx, .wr 3⟩)))) = true
      · have e : stepC (t : Int) m.L ⟨ops, nx, .wr 3⟩ = ((m.L.setN (lput (lfe m.L) (mOf (Cl.op ⟨ops, nx, .wr 3⟩)))).leave t, Cl.done ⟨ops, nx, .wr 3⟩, true, [evD t ⟨ops, nx, .wr 3⟩ ans0]) := by
          show (if fitL (lfd (lput (lfe m.L) (mOf (Cl.op ⟨ops, nx, .wr 3⟩)))) = true then _ else _) = _
          rw [if_pos hf]
        exact h.leave hc hp e hp.1 (.inr (.inl I)) (h.lok.setN_ok hp.1 (lck_rise (fit_parts hf).1) hf) hp.1 I I I (fun u hu hw _ => absurd (by rw [← hw]; exact hp.2.1) hu) (.inr ⟨rfl, by simp⟩)
      · have e : stepC (t : Int) m.L ⟨ops, nx, .wr 3⟩ = (m.L, ⟨ops, nx, .rm 1⟩, false, []) := by
          show (if fitL (lfd (lput (lfe m.L) (mOf (Cl.op ⟨ops, nx, .wr 3⟩)))) = true then _ else _) = _
          rw [if_neg hf]
        have hs := (hS rfl hp.1).resolve_left hf
        refine h.same hc hp e ⟨hp.1, hp.2.1, hs.2, ?_, hs.1⟩ (by simp) (by simp) (by simp) (fun _ => .inr (.inr ⟨1, rfl⟩)) (.inr (.inl ⟨1, rfl⟩))
        refine h.cl0 (fun v d hd a ha => ?_)
        have hv := h.ci v d hd
        have hw : m.L.la.wr = (v : Int) := by
          unfold CI at hv; rw [ha] at hv
          split at hv <;> first | exact hv.2.1 | (exact hv.elim) | simp_all
        have : v = t := by have := hp.2.1; omega
        subst this
        rw [hc] at hd; cases hd; cases ha
  | rm a =>
    match a, hpre with
    | 1, hp => exact h.same hc (c := ⟨ops, nx, .rm 1⟩) hp (c' := ⟨ops, nx, .rm 6⟩) rfl ⟨hci.1, hci.2.1, hci.2.2.2.1, hci.2.2.2.2⟩ (by simp) (by simp) (by simp) (fun _ => .inr (.inr ⟨6, rfl⟩)) (.inr (.inl ⟨6, rfl⟩))
    | 6, hp => exact h.claim hc (c := ⟨ops, nx, .rm 6⟩) hp (c' := ⟨ops, nx, .rm 7⟩) rfl hci.2.1 hp.1 hp.2.2 ⟨hci.1, hci.2.1, by show m.L.cl + 1 = 1; rw [hci.2.2.1], rfl, hci.2.2.2⟩ ⟨6, rfl⟩ ⟨7, rfl⟩
    | 7, hp => exact h.claim hc (c := ⟨ops, nx, .rm 7⟩) hp (c' := ⟨ops, nx, .rm 10⟩) rfl hci.2.1 hp.1 hp.2.2 ⟨hci.1, hci.2.1, by show m.L.cl + 1 = 2; rw [hci.2.2.1], rfl, hci.2.2.2.2⟩ ⟨7, rfl⟩ ⟨10, rfl⟩
    | 10, hp => exact h.leave hc (c := ⟨ops, nx, .rm 10⟩) hp (L1 := m.L.give) rfl hp.1 (.inr (.inr ⟨10, rfl⟩)) h.lok.give_ok hp.1 rfl rfl rfl (fun u hu hw _ => absurd (by rw [← hw]; exact hci.2.1) hu) (.inl rfl)
structure Inv (m : HM) : Prop extends Inv0 m where
  tn : m.T.n = m.cs.length + (m.nf + 1)
  tl : m.T.st.length = m.T.n
  told : ∀ i, i < m.T.n → m.T.st.getD i 0 = stI m i
theorem tellT_st (m : HM) (i : Nat) : ∀ (k : Nat) (T : Sc.Tab), k ≤ T.n → T.st.length = T.n → (tellT m k T).st.length = T.n ∧ (tellT m k T).st.getD i 0 = if i < k then (if T.st.getD i 0 = 2 then 2 else stI m i) else T.st.getD i 0
  | 0, T, _, hl => ⟨hl, by simp [tellT]⟩
  | k + 1, T, hk, hl => by
    obtain ⟨h1, h2⟩ := tellT_st m i k T (by omega) hl
    have hn := tellT_n m k T
    show (Sc.turnM (tellT m k T) (k : Int) (stI m k)).st.length = _ ∧ (Sc.turnM (tellT m k T) (k : Int) (stI m k)).st.getD i 0 = _
    unfold Sc.turnM
    split
    · rename_i hc
      refine ⟨by show ((tellT m k T).st.set _ _).length = _; rw [List.length_set]; exact h1, ?_⟩
      show ((tellT m k T).st.set (k : Int).toNat (stI m k)).getD i 0 = _
      rw [Sc.getD_set, Int.toNat_natCast, h1]
      by_cases e : k = i
      · subst e
        rw [if_pos ⟨rfl, by omega⟩, if_pos (by omega)]
        have hc2 := hc.2.2
        rw [Int.toNat_natCast, h2, if_neg (by omega)] at hc2
        rw [if_neg hc2]
      · rw [if_neg (by simp [e]), h2]
        by_cases e2 : i < k
        · rw [if_pos e2, if_pos (show i < k + 1 by omega)]
        · rw [if_neg e2, if_neg (show ¬ i < k + 1 by omega)]
    · rename_i hc
      refine ⟨h1, ?_⟩
      rw [h2]
      by_cases e : k = i
      · subst e
        rw [if_neg (by omega), if_pos (by omega)]
        have h3 : (tellT m k T).st.getD k 0 = 2 := Classical.byContradiction (fun h3 => hc ⟨by omega, by rw [hn]; omega, by rw [Int.toNat_natCast]; exact h3⟩)
        rw [h2, if_neg (by omega)] at h3
        rw [h3, if_pos rfl]
      · by_cases e2 : i < k
        · rw [if_pos e2, if_pos (show i < k + 1 by omega)]
        · rw [if_neg e2, if_neg (show ¬ i < k + 1 by omega)]
theorem pick_st (T : Sc.Tab) (p : Int) : (Sc.pickM T p).st = T.st := by
  unfold Sc.pickM
  split
  · rfl
  · show (Sc.stepsM _ _ _).st = _
    exact Sc.steps_st _ _ _
theorem stI_may {m : HM} {i : Nat} (h : stI m i = 0) : ∃ c, m.cs[i]? = some c ∧ mayC (i : Int) m.L c = true := by
  unfold stI at h
  split at h
  · rename_i hm
    unfold mayI at hm
    cases hc : m.cs[i]? with
    | none => rw [hc] at hm; cases hm
    | some c => rw [hc] at hm; exact ⟨c, rfl, hm⟩
  · split at h
    · split at h <;> cases h
    · cases h
theorem Inv.run {m : HM} (h : Inv m) {t : Nat} (ht : t ∈ Sc.runM m.T) : ∃ c, m.cs[t]? = some c ∧ preC (t : Int) m.L c ∧ (c.ph ≠ .idle → m.L.mayH (t : Int) = true) := by
  have hlt := Sc.runM_lt ht
  have h0 : m.T.st.getD t 0 = 0 := by
    unfold Sc.runM at ht
    simpa using (List.mem_filter.1 ht).2
  rw [h.told t hlt] at h0
  obtain ⟨c, hc, hm⟩ := stI_may h0
  exact ⟨c, hc, h.toInv0.pre hc hm⟩
theorem Inv.preH {m : HM} (h : Inv m) : m.Pre := fun t ht => h.run ht
theorem client_cs {m : HM} {t : Nat} {c : Cl} (hc : m.cs[t]? = some c) : (m.client t).cs = m.cs.set t (stepC (t : Int) m.L c).2.1 := by unfold HM.client; rw [hc]
theorem client_nf (m : HM) (t : Nat) : (m.client t).nf = m.nf := by unfold HM.client; split <;> rfl
theorem Inv.tell {m : HM} (h : Inv m) {t : Nat} {c : Cl} (hc : m.cs[t]? = some c) (h0 : m.T.st.getD t 0 = 0) (hi : Inv0 (m.client t)) (p : Int) (k : Nat) : Inv { m.client t with T := tellT (m.client t) m.T.n (Sc.pickM m.T p), pk := k } := by
  have hst := pick_st m.T p
  have hn := Sc.pick_n m.T p
  have hl : (Sc.pickM m.T p).st.length = (Sc.pickM m.T p).n := by rw [hst, hn]; exact h.tl
  refine ⟨⟨hi.ops, hi.lok, hi.la, hi.sb, hi.n8, hi.ci, hi.ld0, hi.ldc, hi.ldr, hi.tk, hi.cl0⟩, ?_, ?_, fun i hin => ?_⟩
  · show (tellT _ _ _).n = (m.client t).cs.length + _
    rw [tellT_n, hn, h.tn, client_cs hc, List.length_set, client_nf]
  · show (tellT _ _ _).st.length = (tellT _ _ _).n
    rw [tellT_n, (tellT_st (m.client t) 0 m.T.n (Sc.pickM m.T p) (by rw [hn]; exact Nat.le_refl _) hl).1]
  · have hin2 : i < m.T.n := by
      have : i < (tellT (m.client t) m.T.n (Sc.pickM m.T p)).n := hin
      rw [tellT_n, hn] at this; exact this
    show (tellT _ _ _).st.getD i 0 = stI (m.client t) i
    rw [(tellT_st (m.client t) i m.T.n (Sc.pickM m.T p) (by rw [hn]; exact Nat.le_refl _) hl).2, if_pos hin2, hst]
    split
    · rename_i h2
      have ht : i ≠ t := fun e => by subst e; rw [h0] at h2; cases h2
      rw [h.told i hin2] at h2
      unfold stI at h2
      split at h2
      · cases h2
      · split at h2
        · rename_i d hd
          split at h2
          · rename_i hen
            have hd2 : (m.client t).cs[i]? = some d := by rw [client_cs hc, List.getElem?_set_ne (Ne.symm ht)]; exact hd
            have hph : d.ph = .idle ∧ d.nx = d.ops.length := by unfold Cl.ended at hen; simpa using hen
            unfold stI
            have hmi : mayI (m.client t) i = false := by
              unfold mayI; rw [hd2]; show mayC _ _ d = false
              unfold mayC; rw [hph.1]; simp [hph.2]
            rw [hmi, if_neg (by decide), hd2]
            simp only
            rw [if_pos hen]
          · cases h2
        · cases h2
    · rfl
theorem stepH_cases {m : HM} (h : Inv m) (p : Int) : (stepH m p = m ∧ Sc.runM m.T = []) ∨ ∃ (t : Nat) (c : Cl), m.cs[t]? = some c ∧ m.T.st.getD t 0 = 0 ∧ preC (t : Int) m.L c ∧ stepH m p = { m.client t with T := tellT (m.client t) m.T.n (Sc.pickM m.T p), pk := m.pk + 1 } := by
  unfold stepH
  split
  · rename_i hr; exact .inl ⟨rfl, hr⟩
  · rename_i hr
    have hmem := Sc.who_mem p hr
    obtain ⟨c, hc, hpre, _⟩ := h.run hmem
    refine .inr ⟨Sc.whoM m.T p, c, hc, ?_, hpre, ?_⟩
    · unfold Sc.runM at hmem
      simpa using (List.mem_filter.1 hmem).2
    · have e : ({ m with T := Sc.pickM m.T p, pk := m.pk + 1 } : HM).client (Sc.whoM m.T p) = { m.client (Sc.whoM m.T p) with T := Sc.pickM m.T p, pk := m.pk + 1 } := by
        unfold HM.client
        show (match m.cs[Sc.whoM m.T p]? with | some c => _ | none => _) = _
        rw [hc]
      rw [e]
      have e2 : ∀ k, tellT { m.client (Sc.whoM m.T p) with T := Sc.pickM m.T p, pk := m.pk + 1 } k (Sc.pickM m.T p) = tellT (m.client (Sc.whoM m.T p)) k (Sc.pickM m.T p) := fun k => by
        induction k with
        | zero => rfl
        | succ k ih => show Sc.turnM (tellT _ k _) _ _ = Sc.turnM (tellT _ k _) _ _; rw [ih]; rfl
      rw [e2]
def rk : Ph → Nat
  | .idle => 0
  | .rd 1 => 8
  | .rd 2 => 7
  | .rd 3 => 6
  | .rd _ => 5
  | .wr 0 => 8
  | .wr 1 => 7
  | .wr 2 => 6
  | .wr _ => 5
  | .rm 1 => 4
  | .rm 6 => 3
  | .rm 7 => 2
  | .rm _ => 1
def muC (c : Cl) : Nat := if c.ph = .idle then 9 * (c.ops.length - c.nx) else 9 * (c.ops.length - c.nx - 1) + rk c.ph
def mu (m : HM) : Nat := (m.cs.map muC).sum
theorem stepC_mu {t : Int} {L : Lf} {c : Cl} (hp : preC t L c) (hn : c.ph ≠ .idle → c.nx < c.ops.length) : muC (stepC t L c).2.1 < muC c := by
  obtain ⟨ops, nx, ph⟩ := c
  have hr : ∀ a b : Nat, rk (.rd (if a = 3 then 2 else 3)) < 8 ∧ rk (.wr (if a = 3 then 1 else 2)) < 8 := fun a b => by
    constructor <;> split <;> decide
  have hd : ∀ k : Nat, 0 < k → nx < ops.length → 9 * (ops.length - (nx + 1)) < 9 * (ops.length - nx - 1) + k := fun k hk h => by omega
  cases ph with
  | idle =>
    obtain ⟨h1, _⟩ := hp
    have h1 : nx < ops.length := h1
    show muC ⟨ops, nx, if (Cl.op ⟨ops, nx, .idle⟩).kind = 4 then .rd 1 else .wr 0⟩ < muC ⟨ops, nx, .idle⟩
    unfold muC
    by_cases h4 : (Cl.op ⟨ops, nx, .idle⟩).kind = 4
    · simp only [h4, if_true]; simp [rk]; omega
    · simp only [h4, if_false]; simp [rk]; omega
  | rd a =>
    have h1 : nx < ops.length := hn (by simp)
    match a, hp with
    | 1, _ =>
      show muC ⟨ops, nx, .rd (if (L.pin t).1 = 3 then 2 else 3)⟩ < _
      unfold muC
      by_cases h3 : (L.pin t).1 = 3 <;> simp [h3, rk]
    | 2, _ => show muC ⟨ops, nx, .rd 3⟩ < _; unfold muC; simp [rk]
    | 3, _ => show muC ⟨ops, nx, .rd 5⟩ < _; unfold muC; simp [rk]
    | 5, _ => show muC ⟨ops, nx + 1, .idle⟩ < _; unfold muC; simp [rk]; omega
  | wr a =>
    have h1 : nx < ops.length := hn (by simp)
    match a, hp with
    | 0, _ =>
      show muC ⟨ops, nx, .wr (if (L.pin t).1 = 3 then 1 else 2)⟩ < _
      unfold muC
      by_cases h3 : (L.pin t).1 = 3 <;> simp [h3, rk]
    | 1, _ => show muC ⟨ops, nx, .wr 2⟩ < _; unfold muC; simp [rk]
    | 2, _ => show muC ⟨ops, nx, .wr 3⟩ < _; unfold muC; simp [rk]
    | 3, _ =>
      show muC (if fitL (lfd (lput (lfe L) (mOf (Cl.op ⟨ops, nx, .wr 3⟩)))) = true then _ else _ : Lf × Cl × Bool × List Evt).2.1 < _
      split
      · show muC ⟨ops, nx + 1, .idle⟩ < _; unfold muC; simp [rk]; omega
      · show muC ⟨ops, nx, .rm 1⟩ < _; unfold muC; simp [rk]
  | rm a =>
    have h1 : nx < ops.length := hn (by simp)
    match a, hp with
    | 1, _ => show muC ⟨ops, nx, .rm 6⟩ < _; unfold muC; simp [rk]
    | 6, _ => show muC ⟨ops, nx, .rm 7⟩ < _; unfold muC; simp [rk]
    | 7, _ => show muC ⟨ops, nx, .rm 10⟩ < _; unfold muC; simp [rk]
    | 10, _ => show muC ⟨ops, nx + 1, .idle⟩ < _; unfold muC; simp [rk]; omega
theorem sum_set : ∀ {l : List Cl} {t : Nat} {c c' : Cl}, l[t]? = some c → muC c' < muC c → ((l.set t c').map muC).sum < (l.map muC).sum
  | [], t, c, c', h, _ => by simp at h
  | x :: l, 0, c, c', h, hl => by simp at h; subst h; simp [hl]
  | x :: l, t + 1, c, c', h, hl => by
    have := sum_set (l := l) (t := t) (c := c) (c' := c') (by simpa using h) hl
    simpa using this
theorem Inv0.goes {m : HM} (h : Inv0 m) (he : m.cs.all Cl.ended = false) : ∃ (t : Nat) (c : Cl), m.cs[t]? = some c ∧ mayC (t : Int) m.L c = true := by
  obtain ⟨c, hcm, hce⟩ := List.all_eq_false.1 he
  obtain ⟨t, hc⟩ := List.mem_iff_getElem?.1 hcm
  have h8 : ∀ (v : Nat) (d : Cl), m.cs[v]? = some d → tkB (v : Int) = true := fun v d hd => by
    have := (List.getElem?_eq_some_iff.1 hd).1
    have := h.n8
    unfold tkB
    rw [decide_eq_true (show (0 : Int) ≤ (v : Int) by omega), decide_eq_true (show (v : Int) < 8 by omega)]; rfl
  have hmay : ∀ (v : Nat) (d : Cl), m.cs[v]? = some d → d.ph ≠ .idle → (v : Int) ∉ m.L.ld → (v : Int) ∉ m.L.la.q.map Prod.fst → mayC (v : Int) m.L d = true := fun v d hd hp h1 h2 => by
    have : mayC (v : Int) m.L d = m.L.mayH (v : Int) := by
      unfold mayC; split
      · rename_i e; exact absurd e hp
      · rfl
    rw [this]
    unfold Lf.mayH
    rw [Lf.may_iff, decide_eq_false h1, decide_eq_false h2, h8 v d hd]; rfl
  by_cases hi : c.ph = .idle
  · refine ⟨t, c, hc, ?_⟩
    unfold mayC; rw [hi]
    unfold Cl.ended at hce
    rw [hi] at hce
    simpa using hce
  · have hq0 : m.L.r.st ≠ 2 → m.L.la.q.map Prod.fst = [] := fun h2 => by
      cases hq : m.L.la.q with
      | nil => rfl
      | cons x q => exact absurd (h.hold2 (u := x.1) (by unfold Lt.tasks; rw [hq]; simp)) h2
    rcases h.lok.st3 with h0 | h0 | h0
    · exact ⟨t, c, hc, hmay t c hc hi (by rw [h.ld0 (by omega)]; simp) (by rw [hq0 (by omega)]; simp)⟩
    · obtain ⟨v, d, hd, hp⟩ := h.ldr h0
      refine ⟨v, d, hd, hmay v d hd (by rcases hp with hp | hp <;> rw [hp] <;> simp) (fun hl => ?_) (by rw [hq0 (by omega)]; simp)⟩
      exact h.nl hd (by rcases hp with hp | hp <;> rw [hp] <;> simp) (by rcases hp with hp | hp <;> rw [hp] <;> simp) _ hl rfl
    · by_cases hq : (t : Int) ∈ m.L.la.q.map Prod.fst
      · obtain ⟨n, hn⟩ := h.la
        have hnd := hn.nd
        obtain ⟨x, q, hxq⟩ : ∃ x q, m.L.la.q = x :: q := by
          cases hq2 : m.L.la.q with
          | nil => rw [hq2] at hq; simp at hq
          | cons x q => exact ⟨x, q, rfl⟩
        have hst := h.sb x q hxq
        have hu : ∃ u, u ∈ Lt.tasks m.L.la ∧ u ∉ m.L.la.q.map Prod.fst := by
          unfold Lt.tasks at hnd ⊢
          by_cases hw : 0 ≤ m.L.la.wr
          · rw [if_pos hw] at hnd ⊢
            refine ⟨m.L.la.wr, by simp, fun hm => ?_⟩
            have := (List.nodup_cons.1 hnd).1
            exact this (List.mem_append_right m.L.la.rd hm)
          · rw [if_neg hw] at hnd ⊢
            have hw1 : m.L.la.wr = -1 := by have := hn.wr; omega
            have hrd : m.L.la.rd ≠ [] := fun hr => by
              have : Lt.openB m.L.la x.2 = true := Lt.openB_iff.2 ⟨hw1, fun _ => hr⟩
              rw [hst] at this; cases this
            obtain ⟨u, us, hr⟩ := List.exists_cons_of_ne_nil hrd
            refine ⟨u, by rw [hr]; simp, fun hm => ?_⟩
            rw [List.nil_append, List.nodup_append] at hnd
            exact hnd.2.2 u (by rw [hr]; simp) u hm I
        obtain ⟨u, hu1, hu2⟩ := hu
        obtain ⟨v, d, rfl, hd, hp⟩ := h.tk u hu1
        exact ⟨v, d, hd, hmay v d hd (by rcases hp with hp | hp | ⟨a, hp⟩ <;> rw [hp] <;> simp) (by rw [h.ld0 (by omega)]; simp) hu2⟩
      · exact ⟨t, c, hc, hmay t c hc hi (by rw [h.ld0 (by omega)]; simp) hq⟩
theorem Inv.step {m : HM} (h : Inv m) (p : Int) (hS : ∀ c ∈ m.cs, Small m.L c) : Inv (stepH m p) ∧ mu (stepH m p) ≤ mu m ∧ (m.cs.all Cl.ended = false → mu (stepH m p) < mu m) ∧ (stepH m p).pk ≤ m.pk + 1 := by
  rcases stepH_cases h p with ⟨e, hr⟩ | ⟨t, c, hc, h0, hpre, e⟩
  · rw [e]
    refine ⟨h, Nat.le_refl _, fun he => ?_, Nat.le_succ _⟩
    obtain ⟨t, c, hc, hm⟩ := h.toInv0.goes he
    have hlt : t < m.T.n := by have := (List.getElem?_eq_some_iff.1 hc).1; have := h.tn; omega
    have hmem : t ∈ Sc.runM m.T := by
      unfold Sc.runM
      refine List.mem_filter.2 ⟨List.mem_range.2 hlt, ?_⟩
      rw [h.told t hlt]
      unfold stI
      rw [if_pos (by unfold mayI; rw [hc]; exact hm)]; rfl
    rw [hr] at hmem; cases hmem
  · have hi := h.toInv0.client hc hpre (hS c (List.mem_of_getElem? hc))
    have hmu : mu (m.client t) < mu m := by
      unfold mu
      rw [client_cs hc]
      exact sum_set hc (stepC_mu hpre (h.ops c (List.mem_of_getElem? hc)).2.2)
    rw [e]
    exact ⟨h.tell hc h0 hi p _, Nat.le_of_lt hmu, fun _ => hmu, Nat.le_refl _⟩
theorem hmS_inv {nb nf fl : Nat} {ls : List (List Opn)} (h1 : 1 ≤ nb) (h5 : 5 ≤ nf) (h8 : ls.length + (fl + 1) ≤ 8) (hok : ∀ l ∈ ls, ∀ o ∈ l, o.Ok ∧ (o.kind = 1 ∨ o.kind = 3 ∨ o.kind = 4)) : Inv (hmS nb nf fl ls) := by
  have hcs : ∀ (t : Nat) (c : Cl), (ls.map cl0)[t]? = some c → ∃ l ∈ ls, c = cl0 l := fun t c hc => by
    rw [List.getElem?_map] at hc
    cases hx : ls[t]? with
    | none => rw [hx] at hc; cases hc
    | some l => rw [hx] at hc; cases hc; exact ⟨l, List.mem_of_getElem? hx, rfl⟩
  have hnl : (Sc.newM (ls.length + (fl + 1))).st.length = (Sc.newM (ls.length + (fl + 1))).n := List.length_replicate ..
  refine ⟨⟨fun c hc => ?_, lf0_ok h1 h5, ⟨0, Lt.new_ok⟩, fun w q h => (by cases h), ?_, fun t c hc => ?_, fun _ => rfl, fun u hu => (by cases hu), fun hs => (by cases hs), fun u hu => (by cases hu), fun _ => rfl⟩, ?_, ?_, fun i hi => ?_⟩
  · obtain ⟨l, hl, rfl⟩ := List.mem_map.1 hc
    exact ⟨fun o ho => hok l hl o ho, Nat.zero_le _, fun h => absurd I h⟩
  · show (ls.map cl0).length ≤ 8; rw [List.length_map]; omega
  · obtain ⟨l, _, rfl⟩ := hcs t c hc
    trivial
  · show (tellT _ _ _).n = (ls.map cl0).length + _; rw [tellT_n, List.length_map]; rfl
  · show (tellT _ _ _).st.length = (tellT _ _ _).n
    rw [tellT_n]; exact (tellT_st (hm0 nb nf fl ls) 0 _ _ (Nat.le_refl _) hnl).1
  · have hi2 : i < ls.length + (fl + 1) := by
      have : i < (tellT (hm0 nb nf fl ls) (ls.length + (fl + 1)) (Sc.newM (ls.length + (fl + 1)))).n := hi
      rw [tellT_n] at this; exact this
    show (tellT _ _ _).st.getD i 0 = stI (hm0 nb nf fl ls) i
    rw [(tellT_st (hm0 nb nf fl ls) i (ls.length + (fl + 1)) (Sc.newM (ls.length + (fl + 1))) (Nat.le_refl _) hnl).2, if_pos hi2]
    rw [if_neg]
    show ¬ (List.replicate _ (0 : Int)).getD i 0 = 2
    rw [List.getD_eq_getElem?_getD, List.getElem?_replicate]
    split <;> decide
theorem mu_le : ∀ {ls : List (List Opn)}, (∀ l ∈ ls, l.length ≤ 24) → ((ls.map cl0).map muC).sum ≤ 216 * ls.length
  | [], _ => by simp
  | l :: ls, h => by
    have ih := mu_le (ls := ls) (fun x hx => h x (List.mem_cons_of_mem _ hx))
    have h1 := h l (List.mem_cons_self ..)
    have e : muC (cl0 l) = 9 * l.length := by unfold muC cl0; simp
    simp only [List.map_cons, List.sum_cons, List.length_cons, e]
    omega
theorem mapL_at {L : Lf} (h : L.r.st = 2) : mapL L = lfe L := by unfold mapL ndF lfe; rw [if_pos h]
theorem mapL_no {L : Lf} (h : L.r.st ≠ 2) : mapL L = [] := by unfold mapL ndF; rw [if_neg h]; rfl
theorem unpin_map (L : Lf) : mapL L.unpin = mapL L := by unfold Lf.unpin; split <;> rfl
theorem leave_map (L : Lf) (t : Int) : mapL (L.leave t) = mapL L := (unpin_map _).trans rfl
theorem map_step {t : Int} {L : Lf} {c : Cl} (hL : L.Ok) (hp : preC t L c) : (c.ph = .wr 3 ∧ L.r.st = 2 ∧ fitL (lfd (lput (lfe L) (mOf c.op))) = true ∧ mapL (stepC t L c).1 = lput (mapL L) (mOf c.op) ∧ (stepC t L c).2.2 = (true, [evD t c ans0]) ∧ (stepC t L c).2.1 = c.done) ∨ (mapL (stepC t L c).1 = mapL L ∧ (c.ph = .wr 3 → L.r.st = 2 ∧ fitL (lfd (lput (lfe L) (mOf c.op))) = false)) := by
  obtain ⟨ops, nx, ph⟩ := c
  have hpin : mapL (L.pin t).2 = mapL L := by
    unfold Lf.pin
    split
    · rename_i h0
      have e1 := mapL_no (L := L) (by rw [h0]; decide)
      rw [e1]
      exact mapL_no (by show (1 : Int) ≠ 2; decide)
    · split
      · rfl
      · rfl
  cases ph with
  | idle => exact .inr ⟨rfl, fun h => by cases h⟩
  | rd a =>
    match a, hp with
    | 1, _ => exact .inr ⟨hpin, fun h => by cases h⟩
    | 2, hp => exact .inr ⟨by show mapL L.fill = _; rw [mapL_no (L := L) (by rw [hp.2]; decide)]; rfl, fun h => by cases h⟩
    | 3, _ => exact .inr ⟨rfl, fun h => by cases h⟩
    | 5, _ => exact .inr ⟨leave_map _ _, fun h => by cases h⟩
  | wr a =>
    match a, hp with
    | 0, _ => exact .inr ⟨hpin, fun h => by cases h⟩
    | 1, hp => exact .inr ⟨by show mapL L.fill = _; rw [mapL_no (L := L) (by rw [hp.2]; decide)]; rfl, fun h => by cases h⟩
    | 2, _ => exact .inr ⟨rfl, fun h => by cases h⟩
    | 3, hp =>
      by_cases hf : fitL (lfd (lput (lfe L) (mOf (Cl.op ⟨ops, nx, .wr 3⟩)))) = true
      · have e : stepC t L ⟨ops, nx, .wr 3⟩ = ((L.setN (lput (lfe L) (mOf (Cl.op ⟨ops, nx, .wr 3⟩)))).leave t, Cl.done ⟨ops, nx, .wr 3⟩, true, [evD t ⟨ops, nx, .wr 3⟩ ans0]) := by
          show (if fitL (lfd (lput (lfe L) (mOf (Cl.op ⟨ops, nx, .wr 3⟩)))) = true then _ else _) = _
          rw [if_pos hf]
        rw [e]
        refine .inl ⟨rfl, hp.1, hf, ?_, rfl, rfl⟩
        show mapL ((L.setN _).leave t) = _
        rw [leave_map, mapL_at hp.1, mapL_at (show (L.setN (lput (lfe L) (mOf (Cl.op ⟨ops, nx, .wr 3⟩)))).r.st = 2 from hp.1)]
        rfl
      · have e : stepC t L ⟨ops, nx, .wr 3⟩ = (L, ⟨ops, nx, .rm 1⟩, false, []) := by
          show (if fitL (lfd (lput (lfe L) (mOf (Cl.op ⟨ops, nx, .wr 3⟩)))) = true then _ else _) = _
          rw [if_neg hf]
        rw [e]
        exact .inr ⟨rfl, fun _ => ⟨hp.1, Bool.eq_false_iff.2 hf⟩⟩
  | rm a =>
    match a, hp with
    | 1, _ => exact .inr ⟨rfl, fun h => by cases h⟩
    | 6, _ => exact .inr ⟨rfl, fun h => by cases h⟩
    | 7, _ => exact .inr ⟨rfl, fun h => by cases h⟩
    | 10, _ => exact .inr ⟨leave_map _ _, fun h => by cases h⟩
theorem client_L {m : HM} {t : Nat} {c : Cl} (hc : m.cs[t]? = some c) : (m.client t).L = (stepC (t : Int) m.L c).1 := by unfold HM.client; rw [hc]
theorem client_ev {m : HM} {t : Nat} {c : Cl} (hc : m.cs[t]? = some c) : (m.client t).ev = m.ev ++ (stepC (t : Int) m.L c).2.2.2 := by unfold HM.client; rw [hc]
def OneK (k : Kv 8) (es : List En) : Prop := es = [] ∨ ∃ v, vck v = true ∧ es = [⟨k, v⟩]
theorem kcmp_self (k : Kv 8) : kcmp k k = 0 := lex_self _
theorem one_fit {k : Kv 8} (hk : kck k = true) {es : List En} (h : OneK k es) : fitL (lfd es) = true := by
  rcases h with rfl | ⟨v, hv, rfl⟩
  · exact nvL_fit
  · have h1 := kck_bd hk
    have h2 := vck_bd hv
    unfold fitL
    have e1 : lck (lfd [⟨k, v⟩]).es = true := by
      show lck [⟨k, v⟩] = true
      unfold lck
      simp only [List.length_singleton, List.range_one, List.all_cons, List.all_nil, Bool.and_true]
      unfold lckAt
      simp [hk, hv]
    have e2 : lby (lfd [⟨k, v⟩]).es ≤ 248 := by
      show lby [⟨k, v⟩] ≤ 248
      unfold lby lsz
      simp
      omega
    rw [e1, decide_eq_true e2]; rfl
theorem one_lput {k : Kv 8} {es : List En} (h : OneK k es) {m : Ms} (hm : m.key = k) : lput es m = lnew es m ∧ (∀ v, es = [⟨k, v⟩] → lfind es k = (v, true)) ∧ (es = [] → lfind es k = (kv0 16, false)) := by
  rcases h with rfl | ⟨v, hv, rfl⟩
  · refine ⟨?_, fun v h => by (cases h), fun _ => rfl⟩
    unfold lput
    simp [lpos]
  · have hp : lpos [⟨k, v⟩] k = 0 := by unfold lpos; simp [kcmp_self]
    have hl : lis [⟨k, v⟩] k = true := by unfold lis; rw [hp]; simp
    refine ⟨?_, fun u h => ?_, fun h => by (cases h)⟩
    · unfold lput
      rw [hm, hp, hl]; simp
    · cases h
      unfold lfind; rw [hp]; simp
theorem vck_vof (s : ByteArray) (h : s.size ≤ 16) : vck (vof s h) = true := by
  have hl := byt_len s
  have ht : (pad (byt s) 16).take s.size = byt s := by
    unfold pad
    rw [List.take_append_of_le_length (by omega), List.take_of_length_le (by omega)]
  unfold vck vcheck
  refine decide_eq_true ⟨by show (0 : Int) ≤ (s.size : Int); omega, by show (s.size : Int) ≤ 16; omega, ?_⟩
  show pad ((pad (byt s) 16).take ((s.size : Int)).toNat) 16 = pad (byt s) 16
  rw [Int.toNat_natCast, ht]
theorem vck_vOf {o : Opn} (h : o.Ok) (hk : o.kind = 1) : vck (vOf o) = true := by
  rw [vOf_eq (h.v hk)]; exact vck_vof _ _
theorem vck_from (z : Int) : vck (vfrom z) = true := vcheck_from z
theorem one_new {k : Kv 8} {es : List En} (h : OneK k es) {o : Opn} (ho : o.Ok) (hk : kOf o = k) (hd : o.kind = 1 ∨ o.kind = 3) : ∃ v, vck v = true ∧ lput es (mOf o) = [⟨k, v⟩] ∧ v = (map' (lfind es k).1 (lfind es k).2 (mOf o)).1 := by
  obtain ⟨h1, h2, h3⟩ := one_lput h (m := mOf o) hk
  rw [h1]
  have hkk : (mOf o).key = k := hk
  unfold lnew
  rw [hkk]
  rcases hd with hd | hd
  · have e : map' (lfind es k).1 (lfind es k).2 (mOf o) = (vOf o, true) := by
      unfold map'
      rw [if_pos (show (mOf o).kind = 1 from hd), mOf_put hd]; rfl
    rw [e, if_pos rfl]
    exact ⟨vOf o, vck_vOf ho hd, rfl, rfl⟩
  · have e : (map' (lfind es k).1 (lfind es k).2 (mOf o)).2 = true ∧ vck (map' (lfind es k).1 (lfind es k).2 (mOf o)).1 = true := by
      unfold map'
      rw [if_neg (show ¬ (mOf o).kind = 1 by show ¬ o.kind = 1; omega), if_pos (show (mOf o).kind = 3 from hd)]
      exact ⟨rfl, vck_from _⟩
    rw [if_pos e.1]
    exact ⟨_, e.2, rfl, rfl⟩
structure One (k : Kv 8) (m : HM) : Prop where
  ck : kck k = true
  ops : ∀ c ∈ m.cs, ∀ o ∈ c.ops, kOf o = k
  es : OneK k (mapL m.L)
theorem One.put {k : Kv 8} {m : HM} (h : One k m) {c : Cl} (hc : c ∈ m.cs) (hi : Inv m) (hn : c.nx < c.ops.length) (hk : c.op.kind = 1 ∨ c.op.kind = 3) : OneK k (lput (mapL m.L) (mOf c.op)) := by
  have hm := op_mem hn
  obtain ⟨v, h1, h2, _⟩ := one_new h.es ((hi.ops c hc).1 _ hm).1 (h.ops c hc _ hm) hk
  exact .inr ⟨v, h1, h2⟩
structure Wop (m : HM) : Prop where
  w : ∀ c ∈ m.cs, (∃ a, c.ph = .wr a) ∨ (∃ a, c.ph = .rm a) → c.op.kind = 1 ∨ c.op.kind = 3
theorem One.small {k : Kv 8} {m : HM} (h : One k m) (hi : Inv m) (hw : Wop m) : ∀ c ∈ m.cs, Small m.L c := fun c hc e h2 => by
  left
  have hn := (hi.ops c hc).2.2 (by rw [e]; simp)
  have := h.put hc hi hn (hw.w c hc (.inl ⟨3, e⟩))
  rw [mapL_at h2] at this
  exact one_fit h.ck this
theorem Wop.step {m : HM} (h : Wop m) (hi : Inv m) (p : Int) : Wop (stepH m p) := by
  rcases stepH_cases hi p with ⟨e, _⟩ | ⟨t, c, hc, h0, hpre, e⟩
  · rw [e]; exact h
  · rw [e]
    refine ⟨fun d hd hp => ?_⟩
    have hd2 : d ∈ m.cs.set t (stepC (t : Int) m.L c).2.1 := by rw [← client_cs hc]; exact hd
    rcases List.mem_or_eq_of_mem_set hd2 with e1 | e1
    · exact h.w d e1 hp
    · subst e1
      have hcm := List.mem_of_getElem? hc
      have hw := h.w c hcm
      obtain ⟨ops, nx, ph⟩ := c
      have hop : ∀ p1 p2, Cl.op ⟨ops, nx, p1⟩ = Cl.op ⟨ops, nx, p2⟩ := fun _ _ => rfl
      cases ph with
      | idle =>
        have e : (stepC (t : Int) m.L ⟨ops, nx, .idle⟩).2.1 = ⟨ops, nx, if (Cl.op ⟨ops, nx, .idle⟩).kind = 4 then .rd 1 else .wr 0⟩ := rfl
        rw [e] at hp ⊢
        by_cases h4 : (Cl.op ⟨ops, nx, .idle⟩).kind = 4
        · simp [h4] at hp
        · have := hpre.2.2
          rcases this with h1 | h1 | h1
          · exact .inl h1
          · exact .inr h1
          · exact absurd h1 h4
      | rd a =>
        match a, hpre with
        | 1, _ => exact absurd hp (by show ¬ ((∃ a, Ph.rd _ = .wr a) ∨ ∃ a, Ph.rd _ = .rm a); simp)
        | 2, _ => exact absurd hp (by show ¬ ((∃ a, Ph.rd _ = .wr a) ∨ ∃ a, Ph.rd _ = .rm a); simp)
        | 3, _ => exact absurd hp (by show ¬ ((∃ a, Ph.rd _ = .wr a) ∨ ∃ a, Ph.rd _ = .rm a); simp)
        | 5, _ => exact absurd hp (by show ¬ ((∃ a, Ph.idle = .wr a) ∨ ∃ a, Ph.idle = .rm a); simp)
      | wr a =>
        have hw := hw (.inl ⟨a, rfl⟩)
        match a, hpre with
        | 0, _ => exact hw
        | 1, _ => exact hw
        | 2, _ => exact hw
        | 3, _ =>
          by_cases hf : fitL (lfd (lput (lfe m.L) (mOf (Cl.op ⟨ops, nx, .wr 3⟩)))) = true
          · have e : (stepC (t : Int) m.L ⟨ops, nx, .wr 3⟩).2.1 = ⟨ops, nx + 1, .idle⟩ := by
              show (if fitL (lfd (lput (lfe m.L) (mOf (Cl.op ⟨ops, nx, .wr 3⟩)))) = true then _ else _ : Lf × Cl × Bool × List Evt).2.1 = _
              rw [if_pos hf]; rfl
            rw [e] at hp; simp at hp
          · have e : (stepC (t : Int) m.L ⟨ops, nx, .wr 3⟩).2.1 = ⟨ops, nx, .rm 1⟩ := by
              show (if fitL (lfd (lput (lfe m.L) (mOf (Cl.op ⟨ops, nx, .wr 3⟩)))) = true then _ else _ : Lf × Cl × Bool × List Evt).2.1 = _
              rw [if_neg hf]
            rw [e]; exact hw
      | rm a =>
        have hw := hw (.inr ⟨a, rfl⟩)
        match a, hpre with
        | 1, _ => exact hw
        | 6, _ => exact hw
        | 7, _ => exact hw
        | 10, _ => exact absurd hp (by show ¬ ((∃ a, Ph.idle = .wr a) ∨ ∃ a, Ph.idle = .rm a); simp)
theorem One.step {k : Kv 8} {m : HM} (h : One k m) (hi : Inv m) (hw : Wop m) (p : Int) : One k (stepH m p) := by
  rcases stepH_cases hi p with ⟨e, _⟩ | ⟨t, c, hc, h0, hpre, e⟩
  · rw [e]; exact h
  · rw [e]
    have hcm := List.mem_of_getElem? hc
    refine ⟨h.ck, fun d hd => ?_, ?_⟩
    · have hd2 : d ∈ m.cs.set t (stepC (t : Int) m.L c).2.1 := by rw [← client_cs hc]; exact hd
      rcases List.mem_or_eq_of_mem_set hd2 with e1 | e1
      · exact h.ops d e1
      · subst e1; rw [stepC_ops]; exact h.ops c hcm
    · show OneK k (mapL (m.client t).L)
      rw [client_L hc]
      rcases map_step hi.lok hpre with ⟨e3, e4, e5, e6, _⟩ | ⟨e3, _⟩
      · rw [e6]
        exact h.put hcm hi ((hi.ops c hcm).2.2 (by rw [e3]; simp)) (hw.w c hcm (.inl ⟨3, e3⟩))
      · rw [e3]; exact h.es
def oA : Opn := ⟨1, ⟨#[97]⟩, ⟨#[49]⟩, 0, by decide, by decide⟩
def oB : Opn := ⟨3, ⟨#[97]⟩, ⟨#[]⟩, 1, by decide, by decide⟩
def awL : List (List Opn) := [[oA], [oB]]
def aw0 : HM := hmS 4 9 0 awL
def iterH : Nat → HM → HM
  | 0, m => m
  | k + 1, m => stepH (iterH k m) (k : Int)
theorem aw_a : (iterH 60 aw0).cs.all Cl.ended = true ∧ (iterH 60 aw0).ev.length = 4 ∧ (iterH 60 aw0).sq = 3 ∧ (mapL (iterH 60 aw0).L).length = 1 := by decide +kernel
theorem aw_b : ((iterH 60 aw0).L.r.st = 0 ∨ (iterH 60 aw0).L.r.st = 2) ∧ (iterH 60 aw0).L.r.pins = 0 ∧ (iterH 60 aw0).L.cl = 0 ∧ Lt.idleB (iterH 60 aw0).L.la = true := by decide +kernel
theorem aw_c : ((mapL (iterH 60 aw0).L).map (fun e => e.val.n)).all (fun n => decide (0 < n)) = true := by decide +kernel
theorem rro2 {w : World} {v : Value} {s0 s1 : Sv} {l0 l1 : List Opn} (h : RdV w v encSv [s0, s1]) (h0 : RdV w s0.v Opn.enc l0) (h1 : RdV w s1.v Opn.enc l1) : RRo w v [s0, s1] [l0, l1] := ⟨h, rfl, fun i s l e1 e2 => by
  match i with
  | 0 => cases e1; cases e2; exact h0
  | 1 => cases e1; cases e2; exact h1
  | i + 2 => simp at e1⟩
theorem en_n (e : En) : e.c[9]? = some (.int .i64 e.val.n) := by
  unfold En.c
  rw [List.getElem?_append_right (by rw [Kv.c_len]; decide), Kv.c_len]; rfl
theorem oA_ok : oA.Ok := ⟨by decide, fun _ => by decide⟩
theorem oB_ok : oB.Ok := ⟨by decide, fun h => by cases h⟩
theorem awL_ok : ∀ l ∈ awL, ∀ o ∈ l, o.Ok ∧ (o.kind = 1 ∨ o.kind = 3 ∨ o.kind = 4) := fun l hl o ho => by
  simp [awL] at hl
  rcases hl with rfl | rfl
  · simp at ho; subst ho; exact ⟨oA_ok, .inl rfl⟩
  · simp at ho; subst ho; exact ⟨oB_ok, .inr (.inl rfl)⟩
theorem wop0 (nb nf fl : Nat) (ls : List (List Opn)) : Wop (hmS nb nf fl ls) := ⟨fun c hc h => by
  obtain ⟨l, _, rfl⟩ := List.mem_map.1 (show c ∈ ls.map cl0 from hc)
  rcases h with ⟨a, h⟩ | ⟨a, h⟩ <;> cases h⟩
theorem one0 {k : Kv 8} (nb nf fl : Nat) {ls : List (List Opn)} (hk : kck k = true) (h : ∀ l ∈ ls, ∀ o ∈ l, kOf o = k) : One k (hmS nb nf fl ls) := ⟨hk, fun c hc o ho => by
  obtain ⟨l, hl, rfl⟩ := List.mem_map.1 (show c ∈ ls.map cl0 from hc)
  exact h l hl o ho, .inl rfl⟩
theorem aw_run : ∀ i : Nat, Inv (iterH i aw0) ∧ One (kOf oA) (iterH i aw0) ∧ Wop (iterH i aw0) ∧ (iterH i aw0).pk ≤ i
  | 0 => ⟨hmS_inv (by decide) (by decide) (by decide) awL_ok, one0 4 9 0 (kOf_ck oA_ok) (fun l hl o ho => by
      simp [awL] at hl
      rcases hl with rfl | rfl
      · simp at ho; subst ho; rfl
      · simp at ho; subst ho; decide +kernel), wop0 _ _ _ _, Nat.le_refl 0⟩
  | i + 1 => by
    obtain ⟨h1, h2, h3, h4⟩ := aw_run i
    have hs := h1.step (i : Int) (h2.small h1 h3)
    exact ⟨hs.1, h2.step h1 h3 _, h3.step h1 _, by have := hs.2.2.2; show (stepH _ _).pk ≤ _; omega⟩
theorem awake_spec  : Con Tryz.prog 17 [] (fun _ => True) [] (fun _ : Unit => .bool true) (fun _ => True) (fun _ => []) := by
  intro w hE hH
  refine enter (n := 67) (vs := []) (St w [] []) func17 I I I (St.init hH) ?_
  refine Cs I (Ak I (Cs I (Lq I (q_build (Opn.c oA) I I (fun w => by kernel_rfl)) (l_e I (e_buildSliceV (sz := 4) [.tmp 6] I I I I I U40 Z43 I zeroValue43 I ?_)))))
  intro ba
  refine Lq I (q_build (Opn.c oB) I I (fun w => by kernel_rfl)) (l_e I (e_buildSliceV (sz := 4) [.tmp 8] I I I I I U40 Z43 I zeroValue43 I ?_))
  intro bb
  refine l_e I (e_buildSliceV (sz := 1) [.tmp 7, .tmp 9] I I I I I U25 Z40 I zeroValue40 I ?_)
  intro bo
  refine Lq I (q_build ([.int .i64 ((4 : Nat) : Int), .int .i64 ((9 : Nat) : Int), .int .i64 ((0 : Nat) : Int), .slice (some ⟨bo, 0, none⟩) 2 2]) I I (fun w => by kernel_rfl)) (l_e I (e_callH [_, _, _] (HA := []) (hhnew (vs := [⟨some ⟨ba, 0, none⟩, 1, 1⟩, ⟨some ⟨bb, 0, none⟩, 1, 1⟩]) (ls := awL) (nb := 4) (nf := 9) (fl := 0) (by decide) (by decide) (by decide) (by decide) (by decide) (by decide) (by decide) (fun l hl => by simp [awL] at hl; rcases hl with rfl | rfl <;> simp) (fun l hl o ho => by have := (awL_ok l hl o ho).2; omega)) rfl rfl rfl call18 rfl (fun _ h => rro2 (lit_rd (h.at 0 rfl) encSv [⟨some ⟨ba, 0, none⟩, 1, 1⟩, ⟨some ⟨bb, 0, none⟩, 1, 1⟩] rfl rfl) (lit_rd (h.at 2 rfl) Opn.enc [oA] rfl rfl) (lit_rd (h.at 1 rfl) Opn.enc [oB] rfl rfl)) ?_))
  intro z hz
  refine Lm I (Lq I (q_extract I I I) (Lq I (q_extract I I I) (Las I (Ak I (c_seq (Cs I (Lm I (Lq I (q_neq I I I) (Lm I (drop0 (drop0 (drop0 (Sb 17 false I (I) (Lm I (Lq I (q_eqp I underlying24 I I) (Lq I (q_pick_f I I I) (Lm I (Sb 21 false I (I) (Lm I (l_e I (e_callH [] (zhall hz) I I I call19 I Tt ?_)))))))))))))))))))))
  intro _ _
  refine Pre.world (St _ _ (HC.H z aw0)) Ih ?_
  refine Lq I (q_eqp I underlying47 I I) (Lq I (q_pick_f I I I) (Nk (Sb 25 false I (I) (c_false I (c_skip (Ks (Cs I (Ak I (c_block ?_)))))))))
  refine Pre.world (St w [] (HC.H z (iterH 0 aw0))) Ih ?_
  refine c_loop2 (fun (i : Nat) (z : HC) => [(1, ptV z.bH), (3, .int .i64 (i : Int))]) (fun (i : Nat) (z : HC) => St w [] (HC.H z (iterH i aw0))) (fun (i : Nat) (z : HC) => i ≤ 60 ∧ HOk z (iterH i aw0) (2 * i)) (fun (i : Nat) (z : HC) => 60 - i) (0) (z) ⟨by decide, hz⟩ (Sn I (Sn I (Sub.nil))) Ih ?_
  intro i z hp
  refine c_seq (c_seq ?_)
  obtain ⟨hi, hk⟩ := hp
  obtain ⟨r1, r2, r3, r4⟩ := aw_run i
  refine Cr I (Lm I (Lq I (q_lss I I I) (Nk ?_)))
  refine Pre.caseB 27 I (fun hlt => ?_) (fun hlt => ?_)
  · try simp only [B4] at hlt
    refine c_true I (c_skip (Ks (c_block (Cr I (Lm I (Lm I (l_e I (e_callH [] (hstep hk (by omega) (by omega) r1.preH (i : Int)) I I I call13 I Tt ?_))))))))
    rintro y ⟨hy1, hy2⟩
    refine Pre.world (St _ _ (HC.H y (iterH (i + 1) aw0))) Ih ?_
    refine l_nil (k_block (Kt (Cr I (Lm I (Lq I (q_inc I I I (by omega)) (Las I (l_nil (Sv' 1 (ptV y.bH) I (by rw [hy1]) ?_))))))))
    exact k_round ((i + 1, y)) (by dsimp only; omega) ⟨by dsimp only; omega, hy2⟩ (Sub.cons I (Sub.cons I (Sub.nil))) (fun _ h => h)
  · try simp only [B4] at hlt
    have hi60 : i = 60 := by omega
    subst hi60
    obtain ⟨a1, a2, a3, a4⟩ := aw_a
    obtain ⟨b1, b2, b3, b4⟩ := aw_b
    refine c_false I (c_exit (k_then_exit (k_then_exit (k_block_exit (Kt (Cs I (Lm I (l_e I (e_callH [] (zhall hk) I I I call19 I Tt ?_)))))))))
    intro _ _
    refine Pre.world (St _ _ (HC.H z (iterH 60 aw0))) Ih ?_
    refine l_e I (e_callH [] (zmap hk) I I I call20 I Tt ?_)
    intro vm _
    refine Pre.world (St _ _ (_ :: HC.H z (iterH 60 aw0))) Ih ?_
    refine Ak I (Cs I (Lm I ?_))
    obtain ⟨e0, he0⟩ : ∃ e, (mapL (iterH 60 aw0).L)[0]? = some e := ⟨_, List.getElem?_eq_getElem (by omega)⟩
    have hc0 : 0 < e0.val.n := by
      have h9 := List.all_eq_true.1 aw_c _ (List.mem_map.2 ⟨e0, List.mem_of_getElem? he0, rfl⟩)
      exact of_decide_eq_true h9
    refine l_e I (e_callH [_] (zended hk) I I I call12 I Tt ?_)
    intro _ _
    refine Pre.world (St _ _ (_ :: HC.H z (iterH 60 aw0))) Ih ?_
    refine Sv' 37 (.bool true) I (by rw [a1]) (Lm I (Lm I (l_e I (e_callH [_] (zevents hk) I I I call15 I Tt ?_))))
    intro ve _
    refine Pre.world (St _ _ (_ :: _ :: HC.H z (iterH 60 aw0))) Ih ?_
    refine Lq I (q_lenV I U34 I (Hrd 1 I)) (Lq I (q_eql I I I) (Lq I (q_pick_t I I I) (Lm I (Sb 44 true I (by first | rfl | exact decide_eq_true (by omega) | (simp only [decide_eq_true_eq]; omega)) (Lm I (l_e I (e_callH [_, _] (zseq hk) I I I call47 I Tt ?_)))))))
    intro _ _
    refine Pre.world (St _ _ (_ :: _ :: HC.H z (iterH 60 aw0))) Ih ?_
    refine Lq I (q_eql I I I) (Lq I (q_pick_t I I I) (Lm I (Sb 49 true I (by first | rfl | exact decide_eq_true (by omega) | (simp only [decide_eq_true_eq]; omega)) (Lm I (Lq I (q_lenV I U49 I (Hrd 0 I)) (Lq I (q_eql I I I) (Lq I (q_pick_t I I I) (Lm I (Sb 54 true I (by first | rfl | exact decide_eq_true (by omega) | (simp only [decide_eq_true_eq]; omega)) (Lm I (Lq I (q_indexV 0 I U49 Z79 I (Hrd 0 I) I I (by omega)) (Lfa U79 I Z56 I (Lfa underlying56 I Z3 I (Lq I (q_loadV 0 9 I G3 I I (Hrd 0 I) he0 (en_n e0)) (Lq I (q_gtr I I I) (Lq I (q_pick_t I I I) (Lm I (Sb 62 true I (by first | rfl | exact decide_eq_true (by omega) | (simp only [decide_eq_true_eq]; omega)) (Lm I (l_e I (e_callH [_, _] (zhall hk) I I I call19 I Tt ?_)))))))))))))))))))))
    intro _ _
    refine Pre.world (St _ _ (_ :: _ :: HC.H z (iterH 60 aw0))) Ih ?_
    refine l_e I (e_callH [_, _] (zidle hk b1 b2 b3 b4) I I I call48 I Tt ?_)
    intro _ _
    refine Pre.world (St _ _ (_ :: _ :: HC.H z (iterH 60 aw0))) Ih ?_
    refine Lq I (q_pick_t I I I) (Ak I (c_ret (r_one I I ?_)))
    exact fun _ h => ⟨(), rfl, trivial, h.nothing⟩
theorem Ans.v_part (a : Ans) : (a.c.drop 2).take 17 = a.v.c := by
  unfold Ans.c; exact List.take_of_length_le (by simp [Kv.c_len])
theorem rlarge_ex (o : Opn) : Con Tryz.prog 64 [.agg o.c.toArray] (fun _ => True) [] (fun b : Bool => .bool b) (fun _ => True) (fun _ => []) := by
  intro w hE hH
  refine enter (n := 18) (vs := [.agg o.c.toArray]) (St w [] []) func64 I I I (St.init hH) ?_
  refine Cs I (l_e I (e_box I I I I ?_))
  intro bo
  refine cells_eq (show _ = o.c from I) (Ak I (Cs I (Lfa U43 I Z9 I (Lo G9 0 I (Lq I (q_lenS I U9 I) (Lq I (q_gtr I I I) (Lm I ?_)))))))
  refine Pre.caseB 7 I (fun h1 => ?_) (fun h1 => ?_)
  · try simp only [B4] at h1
    refine Lx I (Lx I (Lx I (Lx I (Lx I (Lx I (Lx I (Lx I (Lx I (Lq I (q_pick_t I I I) (Ak I (c_ret (r_one I I ?_))))))))))))
    exact fun _ h => ⟨_, rfl, trivial, h.nothing⟩
  · try simp only [B4] at h1
    refine Lfa U43 I Z3 I (Lo G3 0 I (Lq I (q_eql I I I) (Lm I ?_)))
    refine Pre.caseB 11 I (fun h2 => ?_) (fun h2 => ?_)
    · try simp only [B4] at h2
      refine Lfa U43 I Z9 I (Lo G9 0 I (Lq I (q_lenS I U9 I) (Lq I (q_gtr I I I) (Lq I (q_pick_t I I I) (Lq I (q_pick_f I I I) (Ak I (c_ret (r_one I I ?_))))))))
      exact fun _ h => ⟨_, rfl, trivial, h.nothing⟩
    · try simp only [B4] at h2
      refine Lx I (Lx I (Lx I (Lx I (Lq I (q_pick_f I I I) (Lq I (q_pick_f I I I) (Ak I (c_ret (r_one I I ?_))))))))
      exact fun _ h => ⟨_, rfl, trivial, h.nothing⟩
theorem ranswer_ex (o : Opn) (a : Ans) : Con Tryz.prog 114 [.agg o.c.toArray, .agg a.c.toArray] (fun _ => True) [] (fun b : Bool => .bool b) (fun _ => True) (fun _ => []) := by
  intro w hE hH
  refine enter (n := 64) (vs := [.agg o.c.toArray, .agg a.c.toArray]) (St w [] []) func114 I I I (St.init hH) ?_
  refine Cs I (l_e I (e_box I I I I ?_))
  intro bo
  refine cells_eq (show _ = o.c from I) (l_e I (e_box I I I I ?_))
  intro ba
  refine cells_eq (show _ = a.c from I) (Ak I (c_seq (c_seq (D8 [(0,O),(1,O),(2,O),(3,O),(4,O),(5,O),(6,O),(7,O),(8,O),(9,O),(10,O),(11,O),(12,O),(13,V),(14,W),(15,W)] [14, 15] [(_,O),(_,O),(_,O),(_,O),(_,O),(_,O),(_,O),(_,O),(_,O),(_,O),(_,O),(_,O),(_,O),(_,V),(_,W),(_,W)] _ I I I I St.drawn Ih (Dfa U43 I Z3 I (Dq I (q_loadC I G3 I (Hat 1 I) I) (Dq I (q_lss I I I) (Dm I ?_))))))))
  refine Pre.caseB 8 I (fun h2 => ?_) (fun h2 => ?_)
  · try simp only [B4] at h2
    refine Dx I (Dx I (Dx I (Dq I (q_pick_t I I I) (Dm I (Dx I (Dx I (Dx I (Dx I (Dx I (Dx I (d_t I (e_q I I (q_pick_t I I I) (d_nil (Kt (c_true I (Cs I (Ak I (c_ret (k_then_ret (r_one I I ?_))))))))))))))))))))
    exact fun _ h => ⟨_, rfl, trivial, h.nothing⟩
  · try simp only [B4] at h2
    refine Dfa U43 I Z3 I (Dq I (q_loadC I G3 I (Hat 1 I) I) (Dq I (q_gtr I I I) (Dq I (q_pick_f I I I) (Dm I ?_))))
    refine Pre.caseB 13 I (fun h3 => ?_) (fun h3 => ?_)
    · try simp only [B4] at h3
      refine Dx I (Dx I (Dx I (Dx I (Dx I (Dx I (d_t I (e_q I I (q_pick_t I I I) (d_nil (Kt (c_true I (Cs I (Ak I (c_ret (k_then_ret (r_one I I ?_)))))))))))))))
      exact fun _ h => ⟨_, rfl, trivial, h.nothing⟩
    · try simp only [B4] at h3
      refine Dfa U58 I Z44 I (Dq I (q_loadC I G44 I (Hat 0 I) I) (Dq I (q_eql I I I) (Dq I (q_loadCAgg (o.c) I G43 Z43 I (Hat 1 I) (I) (I)) (d_e I (e_call_00 (rlarge_ex o) I I I call64 I Tt ?_)))))
      intro bl _
      refine d_held Ih (d_t I (e_q I I (q_neb I underlying4 I I) (d_t I (e_q I I (q_pick_f I I I) (d_nil (Kt ?_))))))
      refine Pre.caseB 20 I (fun h4 => ?_) (fun h4 => ?_)
      · try simp only [B4] at h4
        refine c_true I (Cs I (Ak I (c_ret (k_then_ret (r_one I I ?_)))))
        exact fun _ h => ⟨_, rfl, trivial, h.nothing⟩
      · try simp only [B4] at h4
        refine c_false I (c_skip (Ks (Cs I (Lfa U58 I Z44 I (Lo G44 0 I (Lq I (q_neq I I I) (Lm I ?_)))))))
        refine Pre.caseB 24 I (fun h5 => ?_) (fun h5 => ?_)
        · try simp only [B4] at h5
          refine Lfa U58 I Z44 I (Lo G44 0 I (Lq I (q_neq I I I) (Lq I (q_pick_t I I I) (Lm I ?_))))
          refine Pre.caseB 29 I (fun h6 => ?_) (fun h6 => ?_)
          · try simp only [B4] at h6
            refine Lfa U58 I Z44 I (Lo G44 0 I (Lq I (q_neq I I I) (Lm I ?_)))
            refine Pre.caseB 33 I (fun h7 => ?_) (fun h7 => ?_)
            · try simp only [B4] at h7
              refine Lx I (Lx I (Lx I (Lq I (q_pick_t I I I) (Lq I (q_pick_t I I I) (Nk (c_true I (Cs I (Ak I (c_ret (k_then_ret (r_one I I ?_)))))))))))
              exact fun _ h => ⟨_, rfl, trivial, h.nothing⟩
            · try simp only [B4] at h7
              refine Lfa U43 I Z3 I (Lo G3 1 I (Lq I (q_eql I I I) (Lq I (q_pick_f I I I) (Lq I (q_pick_t I I I) (Nk ?_)))))
              refine Pre.caseB 38 I (fun h8 => ?_) (fun h8 => ?_)
              · try simp only [B4] at h8
                refine c_true I (Cs I (Ak I (c_ret (k_then_ret (r_one I I ?_)))))
                exact fun _ h => ⟨_, rfl, trivial, h.nothing⟩
              · try simp only [B4] at h8
                refine c_false I (c_skip (Ks (Cs I (Lfa U58 I Z4 I (Lo G4 0 I (Lm I ?_))))))
                refine Pre.caseB 41 I (fun h9 => ?_) (fun h9 => ?_)
                · refine Lfa U43 I Z3 I (Lo G3 1 I (Lq I (q_neq I I I) (Lm I ?_)))
                  refine Pre.caseB 45 I (fun h10 => ?_) (fun h10 => ?_)
                  · try simp only [B4] at h10
                    refine Lx I (Lx I (Lx I (Lq I (q_pick_t I I I) (Lq I (q_pick_t I I I) (Nk (c_true I (Cs I (Ak I (c_ret (k_then_ret (r_one I I ?_)))))))))))
                    exact fun _ h => ⟨_, rfl, trivial, h.nothing⟩
                  · try simp only [B4] at h10
                    refine Lfa U58 I Z44 I (Lo G44 0 I (Lq I (q_neq I I I) (Lq I (q_pick_f I I I) (Lq I (q_pick_t I I I) (Nk ?_)))))
                    refine Pre.caseB 50 I (fun h11 => ?_) (fun h11 => ?_)
                    · try simp only [B4] at h11
                      refine c_true I (Cs I (Ak I (c_ret (k_then_ret (r_one I I ?_)))))
                      exact fun _ h => ⟨_, rfl, trivial, h.nothing⟩
                    · try simp only [B4] at h11
                      refine c_false I (c_skip (Kt (Cs I (Lfa U58 I Z56 I (Lq I (q_loadCAgg (a.v.c) I G56 Z56 I (Hat 0 I) (Ans.v_part _) (Kv.c_len _)) (l_e I (e_call_00 (rvcheck_con a.v) I I I call61 I Tt ?_)))))))
                      intro _ _
                      refine Lm I ?_
                      refine Pre.caseB 54 I (fun h12 => ?_) (fun h12 => ?_)
                      · try simp only [B4] at h12
                        refine Lfa U58 I Z4 I (Lo G4 0 I (Lm I (Sb 57 true I (h9) (Lx I (Lx I (Lx I (Lx I (Lq I (q_pick_t I I I) (Lq I (q_pick_t I I I) (Ak I (c_ret (r_one I I ?_))))))))))))
                        exact fun _ h => ⟨_, rfl, trivial, h.nothing⟩
                      · try simp only [B4] at h12
                        refine Lx I (Lx I (Lx I (Lx I (Lx I (Lx I (Lx I (Lx I (Lq I (q_pick_f I I I) (Ak I (c_ret (r_one I I ?_)))))))))))
                        exact fun _ h => ⟨_, rfl, trivial, h.nothing⟩
                · refine Lx I (Lx I (Lx I (Lx I (Lx I (Lx I (Lx I (Lx I (Lq I (q_pick_f I I I) (Nk (c_false I (c_skip (Kt (Cs I (Lfa U58 I Z56 I (Lq I (q_loadCAgg (a.v.c) I G56 Z56 I (Hat 0 I) (Ans.v_part _) (Kv.c_len _)) (l_e I (e_call_00 (rvcheck_con a.v) I I I call61 I Tt ?_)))))))))))))))))
                  intro _ _
                  refine Lm I ?_
                  refine Pre.caseB 54 I (fun h13 => ?_) (fun h13 => ?_)
                  · try simp only [B4] at h13
                    refine Lfa U58 I Z4 I (Lo G4 0 I (Lm I (Sb 57 false I (h9) (Lfa U58 I Z56 I (Lq I (q_loadCAgg (a.v.c) I G56 Z56 I (Hat 0 I) (Ans.v_part _) (Kv.c_len _)) (Lq I (q_build ((kv0 16).c) I I (fun w => by kernel_rfl)) (Lq I (q_eqVl (a.v) ((kv0 16)) I I I) (Lq I (q_pick_f I I I) (Lq I (q_pick_t I I I) (Ak I (c_ret (r_one I I ?_))))))))))))
                    exact fun _ h => ⟨_, rfl, trivial, h.nothing⟩
                  · try simp only [B4] at h13
                    refine Lx I (Lx I (Lx I (Lx I (Lx I (Lx I (Lx I (Lx I (Lq I (q_pick_f I I I) (Ak I (c_ret (r_one I I ?_)))))))))))
                    exact fun _ h => ⟨_, rfl, trivial, h.nothing⟩
          · try simp only [B4] at h6
            refine Lx I (Lx I (Lx I (Lx I (Lx I (Lx I (Lx I (Lx I (Lq I (q_pick_f I I I) (Nk (c_false I (c_skip (Ks (Cs I (Lfa U58 I Z4 I (Lo G4 0 I (Lm I ?_))))))))))))))))
            refine Pre.caseB 41 I (fun h14 => ?_) (fun h14 => ?_)
            · refine Lfa U43 I Z3 I (Lo G3 1 I (Lq I (q_neq I I I) (Lm I ?_)))
              refine Pre.caseB 45 I (fun h15 => ?_) (fun h15 => ?_)
              · try simp only [B4] at h15
                refine Lx I (Lx I (Lx I (Lq I (q_pick_t I I I) (Lq I (q_pick_t I I I) (Nk (c_true I (Cs I (Ak I (c_ret (k_then_ret (r_one I I ?_)))))))))))
                exact fun _ h => ⟨_, rfl, trivial, h.nothing⟩
              · try simp only [B4] at h15
                refine Lfa U58 I Z44 I (Lo G44 0 I (Lq I (q_neq I I I) (Lq I (q_pick_f I I I) (Lq I (q_pick_t I I I) (Nk ?_)))))
                refine Pre.caseB 50 I (fun h16 => ?_) (fun h16 => ?_)
                · try simp only [B4] at h16
                  refine c_true I (Cs I (Ak I (c_ret (k_then_ret (r_one I I ?_)))))
                  exact fun _ h => ⟨_, rfl, trivial, h.nothing⟩
                · try simp only [B4] at h16
                  refine c_false I (c_skip (Kt (Cs I (Lfa U58 I Z56 I (Lq I (q_loadCAgg (a.v.c) I G56 Z56 I (Hat 0 I) (Ans.v_part _) (Kv.c_len _)) (l_e I (e_call_00 (rvcheck_con a.v) I I I call61 I Tt ?_)))))))
                  intro _ _
                  refine Lm I ?_
                  refine Pre.caseB 54 I (fun h17 => ?_) (fun h17 => ?_)
                  · try simp only [B4] at h17
                    refine Lfa U58 I Z4 I (Lo G4 0 I (Lm I (Sb 57 true I (h14) (Lx I (Lx I (Lx I (Lx I (Lq I (q_pick_t I I I) (Lq I (q_pick_t I I I) (Ak I (c_ret (r_one I I ?_))))))))))))
                    exact fun _ h => ⟨_, rfl, trivial, h.nothing⟩
                  · try simp only [B4] at h17
                    refine Lx I (Lx I (Lx I (Lx I (Lx I (Lx I (Lx I (Lx I (Lq I (q_pick_f I I I) (Ak I (c_ret (r_one I I ?_)))))))))))
                    exact fun _ h => ⟨_, rfl, trivial, h.nothing⟩
            · refine Lx I (Lx I (Lx I (Lx I (Lx I (Lx I (Lx I (Lx I (Lq I (q_pick_f I I I) (Nk (c_false I (c_skip (Kt (Cs I (Lfa U58 I Z56 I (Lq I (q_loadCAgg (a.v.c) I G56 Z56 I (Hat 0 I) (Ans.v_part _) (Kv.c_len _)) (l_e I (e_call_00 (rvcheck_con a.v) I I I call61 I Tt ?_)))))))))))))))))
              intro _ _
              refine Lm I ?_
              refine Pre.caseB 54 I (fun h18 => ?_) (fun h18 => ?_)
              · try simp only [B4] at h18
                refine Lfa U58 I Z4 I (Lo G4 0 I (Lm I (Sb 57 false I (h14) (Lfa U58 I Z56 I (Lq I (q_loadCAgg (a.v.c) I G56 Z56 I (Hat 0 I) (Ans.v_part _) (Kv.c_len _)) (Lq I (q_build ((kv0 16).c) I I (fun w => by kernel_rfl)) (Lq I (q_eqVl (a.v) ((kv0 16)) I I I) (Lq I (q_pick_f I I I) (Lq I (q_pick_t I I I) (Ak I (c_ret (r_one I I ?_))))))))))))
                exact fun _ h => ⟨_, rfl, trivial, h.nothing⟩
              · try simp only [B4] at h18
                refine Lx I (Lx I (Lx I (Lx I (Lx I (Lx I (Lx I (Lx I (Lq I (q_pick_f I I I) (Ak I (c_ret (r_one I I ?_)))))))))))
                exact fun _ h => ⟨_, rfl, trivial, h.nothing⟩
        · try simp only [B4] at h5
          refine Lx I (Lx I (Lx I (Lq I (q_pick_f I I I) (Lm I (Lx I (Lx I (Lx I (Lx I (Lx I (Lx I (Lx I (Lx I (Lq I (q_pick_f I I I) (Nk (c_false I (c_skip (Ks (Cs I (Lfa U58 I Z4 I (Lo G4 0 I (Lm I ?_)))))))))))))))))))))
          refine Pre.caseB 41 I (fun h19 => ?_) (fun h19 => ?_)
          · refine Lfa U43 I Z3 I (Lo G3 1 I (Lq I (q_neq I I I) (Lm I ?_)))
            refine Pre.caseB 45 I (fun h20 => ?_) (fun h20 => ?_)
            · try simp only [B4] at h20
              refine Lx I (Lx I (Lx I (Lq I (q_pick_t I I I) (Lq I (q_pick_t I I I) (Nk (c_true I (Cs I (Ak I (c_ret (k_then_ret (r_one I I ?_)))))))))))
              exact fun _ h => ⟨_, rfl, trivial, h.nothing⟩
            · try simp only [B4] at h20
              refine Lfa U58 I Z44 I (Lo G44 0 I (Lq I (q_neq I I I) (Lq I (q_pick_f I I I) (Lq I (q_pick_t I I I) (Nk ?_)))))
              refine Pre.caseB 50 I (fun h21 => ?_) (fun h21 => ?_)
              · try simp only [B4] at h21
                refine c_true I (Cs I (Ak I (c_ret (k_then_ret (r_one I I ?_)))))
                exact fun _ h => ⟨_, rfl, trivial, h.nothing⟩
              · try simp only [B4] at h21
                refine c_false I (c_skip (Kt (Cs I (Lfa U58 I Z56 I (Lq I (q_loadCAgg (a.v.c) I G56 Z56 I (Hat 0 I) (Ans.v_part _) (Kv.c_len _)) (l_e I (e_call_00 (rvcheck_con a.v) I I I call61 I Tt ?_)))))))
                intro _ _
                refine Lm I ?_
                refine Pre.caseB 54 I (fun h22 => ?_) (fun h22 => ?_)
                · try simp only [B4] at h22
                  refine Lfa U58 I Z4 I (Lo G4 0 I (Lm I (Sb 57 true I (h19) (Lx I (Lx I (Lx I (Lx I (Lq I (q_pick_t I I I) (Lq I (q_pick_t I I I) (Ak I (c_ret (r_one I I ?_))))))))))))
                  exact fun _ h => ⟨_, rfl, trivial, h.nothing⟩
                · try simp only [B4] at h22
                  refine Lx I (Lx I (Lx I (Lx I (Lx I (Lx I (Lx I (Lx I (Lq I (q_pick_f I I I) (Ak I (c_ret (r_one I I ?_)))))))))))
                  exact fun _ h => ⟨_, rfl, trivial, h.nothing⟩
          · refine Lx I (Lx I (Lx I (Lx I (Lx I (Lx I (Lx I (Lx I (Lq I (q_pick_f I I I) (Nk (c_false I (c_skip (Kt (Cs I (Lfa U58 I Z56 I (Lq I (q_loadCAgg (a.v.c) I G56 Z56 I (Hat 0 I) (Ans.v_part _) (Kv.c_len _)) (l_e I (e_call_00 (rvcheck_con a.v) I I I call61 I Tt ?_)))))))))))))))))
            intro _ _
            refine Lm I ?_
            refine Pre.caseB 54 I (fun h23 => ?_) (fun h23 => ?_)
            · try simp only [B4] at h23
              refine Lfa U58 I Z4 I (Lo G4 0 I (Lm I (Sb 57 false I (h19) (Lfa U58 I Z56 I (Lq I (q_loadCAgg (a.v.c) I G56 Z56 I (Hat 0 I) (Ans.v_part _) (Kv.c_len _)) (Lq I (q_build ((kv0 16).c) I I (fun w => by kernel_rfl)) (Lq I (q_eqVl (a.v) ((kv0 16)) I I I) (Lq I (q_pick_f I I I) (Lq I (q_pick_t I I I) (Ak I (c_ret (r_one I I ?_))))))))))))
              exact fun _ h => ⟨_, rfl, trivial, h.nothing⟩
            · try simp only [B4] at h23
              refine Lx I (Lx I (Lx I (Lx I (Lx I (Lx I (Lx I (Lx I (Lq I (q_pick_f I I I) (Ak I (c_ret (r_one I I ?_)))))))))))
              exact fun _ h => ⟨_, rfl, trivial, h.nothing⟩
structure Ca where
  client : Int
  index : Int
  op : Opn
  from' : Int
  to' : Int
  a : Ans
namespace Ca
def c (e : Ca) : List Value := [.int .i64 e.client, .int .i64 e.index] ++ (e.op.c ++ ([.int .i64 e.from', .int .i64 e.to'] ++ e.a.c))
theorem c_len (e : Ca) : e.c.length = 27 := by simp [c, Ans.c_len, Opn.c]
theorem one (e : Ca) : ∀ v ∈ e.c, v.oneCell' = true := by
  intro v hv
  rcases List.mem_append.1 hv with hv | hv
  · simp only [List.mem_cons, List.not_mem_nil, or_false] at hv
    rcases hv with rfl | rfl <;> rfl
  rcases List.mem_append.1 hv with hv | hv
  · exact Opn.one _ _ hv
  rcases List.mem_append.1 hv with hv | hv
  · simp only [List.mem_cons, List.not_mem_nil, or_false] at hv
    rcases hv with rfl | rfl <;> rfl
  · exact Ans.one _ _ hv
theorem a_part (e : Ca) : (e.c.drop 8).take 19 = e.a.c := by
  show (e.a.c).take 19 = _
  exact List.take_of_length_le (by rw [Ans.c_len]; exact Nat.le_refl _)
def enc : Enc Ca := { sz := 27, f := Ca.c, len := c_len, pos := by decide, one := one }
end Ca
def bef (a b : Ca) : Bool := decide (0 ≤ a.to') && decide (a.to' < b.from')
def vnum (k : Kv 16) : Int := num (k.b.take 8)
theorem kv_bytes (k : Kv 16) : ∀ z ∈ k.b, 0 ≤ z ∧ z < 256 := fun z hz => by
  have := Go.Sep.wf_u8 (k.wb z hz); omega
theorem vnum_bd (k : Kv 16) : 0 ≤ vnum k ∧ vnum k < 18446744073709551616 := by
  have := num_bd (k.b.take 8) (fun b hb => kv_bytes k b (List.mem_of_mem_take hb))
  rw [show (k.b.take 8).length = 8 from by rw [List.length_take, k.len]; rfl] at this
  exact ⟨this.1, this.2⟩
def vpart (k : Kv 16) (j : Nat) : Int := num ((k.b.drop (8 - j)).take j)
theorem vpart_0 (k : Kv 16) : vpart k 0 = 0 := by unfold vpart; simp [num]
theorem vpart_step (k : Kv 16) {j : Nat} (hj : j < 8) : IntKind.u64.wrap (IntKind.u64.wrap (vpart k j * 256) + k.b.getD (7 - j) 0) = vpart k (j + 1) := by
  have hl := k.len
  have h1 := num_part k.b (8 - j) j (kv_bytes k) (by omega)
  have h2 := num_step k.b (7 - j) j (by omega)
  have hbb := byte_of (kv_bytes k) (7 - j)
  rw [← List.getD_eq_getElem?_getD] at h2 hbb
  rw [show 7 - j + 1 = 8 - j from by omega] at h2
  unfold vpart
  rw [show 8 - (j + 1) = 7 - j from by omega, h2, wrap_id (a := num ((k.b.drop (8 - j)).take j) * 256) (by omega) (by omega)]
  rw [wrap_id (by omega) (by omega)]; omega
theorem byte_at (k : Kv 16) (j : Nat) : IntKind.u64.wrap (k.b.getD j 0) = k.b.getD j 0 := by
  have h := byte_of (kv_bytes k) j
  rw [← List.getD_eq_getElem?_getD] at h
  exact wrap_id h.1 (by omega)
theorem rbef_spec (a b : Ca) : Con Tryz.prog 30 [.agg a.c.toArray, .agg b.c.toArray] (fun _ => True) [] (fun _ : Unit => .bool (bef a b)) (fun _ => True) (fun _ => []) := by
  intro w hE hH
  refine enter (n := 15) (vs := [.agg a.c.toArray, .agg b.c.toArray]) (St w [] []) func30 I I I (St.init hH) ?_
  refine Cs I (l_e I (e_box I I I I ?_))
  intro ba
  refine cells_eq (show _ = a.c from I) (l_e I (e_box I I I I ?_))
  intro bb
  refine cells_eq (show _ = b.c from I) (Ak I (Cs I (Lfa U60 I Z3 I (Lo G3 1 I (Lq I (q_geq I I I) (Lm I ?_))))))
  refine Pre.caseB 8 I (fun h1 => ?_) (fun h1 => ?_)
  · try simp only [B4] at h1
    refine Lfa U60 I Z3 I (Lo G3 1 I (Lfa U60 I Z3 I (Lo G3 0 I (Lq I (q_lss I I I) (Lq I (q_pick_t I I I) (Ak I (c_ret (r_one I I ?_))))))))
    exact fun _ h => ⟨(), congrArg (fun z => Ending.returned (Value.bool z)) (by simp [bef, h1]), trivial, h.nothing⟩
  · try simp only [B4] at h1
    refine Lx I (Lx I (Lx I (Lx I (Lx I (Lq I (q_pick_f I I I) (Ak I (c_ret (r_one I I ?_))))))))
    exact fun _ h => ⟨(), congrArg (fun z => Ending.returned (Value.bool z)) (by simp [bef]; omega), trivial, h.nothing⟩
theorem number_spec (k : Kv 16) : Con Tryz.prog 31 [.agg k.c.toArray] (fun _ => True) [] (fun _ : Unit => .int .u64 (vnum k)) (fun _ => True) (fun _ => []) := by
  intro w hE hH
  refine enter (n := 18) (vs := [.agg k.c.toArray]) (St w [] []) func31 I I I (St.init hH) ?_
  refine Cs I (l_e I (e_box I I I I ?_))
  intro bk
  refine cells_eq (show _ = k.c from I) (Ak I (Cs I (Ak I (c_seq (Cs I (Ak I (c_block ?_)))))))
  refine c_loop2 (fun (j : Nat) (m : Nat) => [(1, ptV bk), (3, .int .u64 (vpart k j)), (4, .int .i64 ((m : Int) - 1))]) (fun (j : Nat) (m : Nat) => St w [] [cellsE bk 56 k.c]) (fun (j : Nat) (m : Nat) => j + m = 8) (fun (j : Nat) (m : Nat) => m) (0) (8) I (Sn I (Sub.consE I (by rw [vpart_0]) (Sub.cons I Sub.nil))) Ih ?_
  intro j m hjm
  refine c_seq (Cs I (Lm I (Lq I (q_geq I I I) (Nk ?_))))
  refine Pre.caseB 6 I (fun hlt => ?_) (fun hlt => ?_)
  · try simp only [B4] at hlt
    have hst := vpart_step k (j := j) (by omega)
    refine Sv' 4 (.int .i64 (((7 - j : Nat)) : Int)) I (by rw [show (m : Int) - 1 = ((7 - j : Nat) : Int) from by omega]) (c_true I (c_skip (Ks (c_block (Cr I (Lm I (Lq I (q_mul I I I) (Lm I (Lfa underlying56 I sizeOf54 I (Lq I (q_indexArr (7 - j) I underlying54 Z5 I I I (by omega)) (Lq I (q_loadC I G5 I (Hat 0 I) (kv_get k (by omega))) (Lq I (q_conv_in I U5 U41 I (byte_at k _)) (Lq I (q_add I I I) (Las I (l_nil (k_block (Kt (Cr I (Lm I (Lq I (q_sub64 I I I (by omega)) (Las I (l_nil (Sv' 3 (.int .u64 (vpart k (j + 1))) I (by rw [← hst, Nat.mul_one]) ?_)))))))))))))))))))))))
    refine Sv' 4 (.int .i64 (((m - 1 : Nat) : Int) - 1)) I (by rw [show ((7 - j : Nat) : Int) - 1 = ((m - 1 : Nat) : Int) - 1 from by omega]) ?_
    exact k_round ((j + 1, m - 1)) (by dsimp only; omega) (by dsimp only; omega) (Sub.cons I (Sub.cons I (Sub.cons I (Sub.nil)))) (fun _ h => h)
  · try simp only [B4] at hlt
    have hj8 : j = 8 := by omega
    subst hj8
    refine c_false I (c_exit (k_then_exit (k_then_exit (k_block_exit (Kt (Cs I (Lm I (Ak I (c_ret (r_one I I ?_))))))))))
    exact fun _ h => ⟨(), rfl, trivial, h.nothing⟩
def Ans.ks : List Sc := [Sc.i .i64, Sc.b] ++ Kv.ks 16
theorem Ans.kinds {a : Ans} (h : (Lit.int .i64 a.code).wf = true) : Kinds Ans.ks a.c := by
  refine kinds_app ⟨rfl, fun j k v h1 h2 => ?_⟩ (Kv.kinds a.v)
  match j with
  | 0 => cases h1; cases h2; exact ⟨_, rfl, h⟩
  | 1 => cases h1; cases h2; exact ⟨_, rfl⟩
  | j + 2 => simp at h1
theorem Ans.c_inj {a b : Ans} : a.c = b.c ↔ (a.code = b.code ∧ a.f = b.f ∧ a.v = b.v) := by
  constructor
  · intro h
    simp only [Ans.c, List.cons_append, List.nil_append, List.cons.injEq, Value.int.injEq, Value.bool.injEq, true_and] at h
    exact ⟨h.1, h.2.1, Kv.c_inj.1 h.2.2⟩
  · rintro ⟨h1, h2, h3⟩
    unfold Ans.c; rw [h1, h2, h3]
section
variable {n : Nat} {L : Env} {X : World → Prop} {o : Oper}
theorem q_neAn {u : TypeId} {x y : Operand} (a : Ans) (ha : (Lit.int .i64 a.code).wf = true) (ho : o.op = .binOp .neq 58 x y u) (hx : ev L x = some (.agg a.c.toArray)) (hy : ev L y = some (.agg ans0.c.toArray)) : QOp Tryz.prog n L X o (.bool (!decide (a.code = ans0.code ∧ a.f = ans0.f ∧ a.v = ans0.v))) :=
  q_neAgg (d := 4) (ks := Ans.ks) _ (by kernel_rfl) (by kernel_rfl) (by decide) (by kernel_rfl) (by kernel_rfl) (by kernel_rfl) ho hx hy (Ans.kinds ha) (Ans.kinds (by decide)) (by rw [Ans.c_inj, decide_eq_true_eq])
end
theorem rep_bd {n i : Nat} : ∀ x ∈ List.replicate n (0 : Int), 0 ≤ x ∧ x ≤ (i : Int) := fun x hx => by rw [(List.mem_replicate.1 hx).2]; omega
theorem set_bd {l : List Int} {i c k : Nat} (h : ∀ x ∈ l, 0 ≤ x ∧ x ≤ (i : Int)) (hk : k ≤ i) : ∀ x ∈ l.set c ((k + 1 : Nat) : Int), 0 ≤ x ∧ x ≤ ((i + 1 : Nat) : Int) := fun x hx => by
  rcases List.mem_or_eq_of_mem_set hx with h1 | h1
  · have := h x h1; omega
  · omega
theorem bd_up {l : List Int} {i : Nat} (h : ∀ x ∈ l, 0 ≤ x ∧ x ≤ (i : Int)) : ∀ x ∈ l, 0 ≤ x ∧ x ≤ ((i + 1 : Nat) : Int) := fun x hx => by have := h x hx; omega
theorem Evt.a_part (e : Evt) : (e.c.drop 3).take 19 = e.a.c := by
  unfold Evt.c; exact List.take_of_length_le (by simp [Ans.c_len])
theorem nat_at {l : List Int} {i c : Nat} (h : ∀ x ∈ l, 0 ≤ x ∧ x ≤ (i : Int)) (hc : c < l.length) : ∃ k : Nat, l[c]? = some (k : Int) ∧ k ≤ i := by
  have hx := h _ (List.getElem_mem hc)
  exact ⟨(l[c]).toNat, by rw [List.getElem?_eq_getElem hc]; congr 1; omega, by omega⟩
theorem rcheck_ex {va vo : Value} (l : List Evt) (vs : List Sv) (ops : List (List Opn)) (hn : l.length ≤ 65536) (hk : ops.length ≤ 65536) (hm : ∀ o ∈ ops, o.length ≤ 65536) (hW : ∀ x ∈ l, (Lit.int .i64 x.a.code).wf = true) : Con Tryz.prog 66 [va, vo] (fun w => RdV w va Evt.enc l ∧ RRo w vo vs ops) [] (fun b : Bool => .bool b) (fun _ => True) (fun _ => []) := by
  intro w hE hH
  obtain ⟨hl, hO⟩ := hE
  have hvl := hO.len
  refine enter (n := 136) (vs := [va, vo]) (St w [] []) func66 I I I (St.init hH) ?_
  refine Cs I (Ak I (Cs I (Lm I (Lq I (q_lenV I U25 I (fun _ h => hO.o.keep h (by simp [dom]))) (l_e I (e_makeSlice (encI .i64) 0 vs.length I I I U22 info3 I I I I I I I (by simp only [byt3]; omega) (by omega) ?_))))))
  intro vb
  refine Ak I (Cs I (Lm I (Lq I (q_lenV I U25 I (fun _ h => hO.o.keep h (by simp [dom]))) (l_e I (e_makeSlice (encI .i64) 0 vs.length I I I U22 info3 I I I I I I I (by simp only [byt3]; omega) (by omega) ?_)))))
  intro vd
  refine Ak I (c_seq (Cs I (Ak I (c_block (pull1 ?_)))))
  refine c_loop3 (fun (i : Nat) (lb : List Int) (ld : List Int) => [(0, va), (1, vo), (5, vb), (6, vd), (7, .int .i64 (i : Int))]) (fun (i : Nat) (lb : List Int) (ld : List Int) => St w [] [rowE vb 3 (encI .i64) lb, rowE vd 3 (encI .i64) ld]) (fun (i : Nat) (lb : List Int) (ld : List Int) => i ≤ l.length ∧ lb.length = vs.length ∧ ld.length = vs.length ∧ (∀ x ∈ lb, 0 ≤ x ∧ x ≤ (i : Int)) ∧ (∀ x ∈ ld, 0 ≤ x ∧ x ≤ (i : Int))) (fun (i : Nat) (lb : List Int) (ld : List Int) => l.length - i) (0) (List.replicate vs.length 0) (List.replicate vs.length 0) ⟨Nat.zero_le _, List.length_replicate .., List.length_replicate .., rep_bd, rep_bd⟩ (Sn I (Sn I (Sn I (Sn I (Sn I (Sub.nil)))))) Ih ?_
  intro i lb ld hp
  refine c_seq (c_seq ?_)
  obtain ⟨hi, hbl, hdl, hbb, hdb⟩ := hp
  refine Cr I (Lm I (Lm I (Lq I (q_lenV I U34 I (fun _ h => hl.keep h (by simp [dom]))) (Lq I (q_lss I I I) (Nk ?_)))))
  refine Pre.caseB 20 I (fun h1 => ?_) (fun h1 => ?_)
  · try simp only [B4] at h1
    obtain ⟨x, hx⟩ : ∃ x, l[i]? = some x := ⟨_, List.getElem?_eq_getElem (by omega)⟩
    have hxw := hW x (List.mem_of_getElem? hx)
    refine c_true I (c_skip (Ks (c_block (Cs I (Lm I (Lm I (Lq I (q_indexV i I U34 Z71 I (fun _ h => hl.keep h (by simp [dom])) I I (by omega)) (Lfa U71 I Z3 I (Lq I (q_loadV i 0 I G3 I I (fun _ h => hl.keep h (by simp [dom])) hx I) (Ak I (c_seq (Cs I (Lm I (Lq I (q_lss I I I) (Lm I ?_)))))))))))))))
    refine Pre.caseB 30 I (fun h2 => ?_) (fun h2 => ?_)
    · try simp only [B4] at h2
      refine Lx I (Lx I (Lx I (Lx I (Lq I (q_pick_t I I I) (Nk (c_true I (Cs I (Ak I (c_ret (k_then_ret (k_block_ret (k_then_ret (k_then_ret (k_block_ret (k_then_ret (r_one I I ?_))))))))))))))))
      exact fun _ h => ⟨_, rfl, trivial, h.nothing⟩
    · try simp only [B4] at h2
      refine Lm I (Lm I (Lq I (q_lenV I U25 I (fun _ h => hO.o.keep h (by simp [dom]))) (Lq I (q_geq I I I) (Lq I (q_pick_f I I I) (Nk ?_)))))
      refine Pre.caseB 35 I (fun h3 => ?_) (fun h3 => ?_)
      · try simp only [B4] at h3
        refine c_true I (Cs I (Ak I (c_ret (k_then_ret (k_block_ret (k_then_ret (k_then_ret (k_block_ret (k_then_ret (r_one I I ?_))))))))))
        exact fun _ h => ⟨_, rfl, trivial, h.nothing⟩
      · try simp only [B4] at h3
        obtain ⟨c, hc⟩ : ∃ c : Nat, x.cl = (c : Int) := ⟨x.cl.toNat, by omega⟩
        obtain ⟨s, hs⟩ : ∃ s, vs[c]? = some s := ⟨_, List.getElem?_eq_getElem (by omega)⟩
        obtain ⟨lo, hlo⟩ : ∃ o, ops[c]? = some o := ⟨_, List.getElem?_eq_getElem (by omega)⟩
        have hrd := hO.i c s lo hs hlo
        have hlm := hm lo (List.mem_of_getElem? hlo)
        obtain ⟨kb, hkb, hkbi⟩ := nat_at (c := c) hbb (by omega)
        obtain ⟨kd, hkd, hkdi⟩ := nat_at (c := c) hdb (by omega)
        refine Sv' 8 (.int .i64 (c : Int)) I (by rw [hc]) (c_false I (c_skip (Kt (Cs I (Lm I (Lm I (Lq I (q_indexV c I U22 Z3 I (Hrd 0 I) I I (by omega)) (Lq I (q_loadV c 0 I G3 I I (Hrd 0 I) hkb I) (Ak I (c_seq (Cs I (Lm I (Lm I (Lq I (q_indexV i I U34 Z71 I (fun _ h => hl.keep h (by simp [dom])) I I (by omega)) (Lfa U71 I Z4 I (Lq I (q_loadV i 2 I G4 I I (fun _ h => hl.keep h (by simp [dom])) hx I) (Nk ?_)))))))))))))))))
        refine Pre.caseB 44 I (fun hd => ?_) (fun hd => ?_)
        · refine c_true I (Cr I (Lm I (Lm I (Lq I (q_indexV c I U22 Z3 I (Hrd 1 I) I I (by omega)) (Lq I (q_loadV c 0 I G3 I I (Hrd 1 I) hkd I) (Ak I (c_seq (Cs I (Lm I (Lm I (Lq I (q_indexV i I U34 Z71 I (fun _ h => hl.keep h (by simp [dom])) I I (by omega)) (Lfa U71 I Z3 I (Lq I (q_loadV i 1 I G3 I I (fun _ h => hl.keep h (by simp [dom])) hx I) (Lm I (Lq I (q_neq I I I) (Lm I ?_))))))))))))))))
          refine Pre.caseB 56 I (fun h5 => ?_) (fun h5 => ?_)
          · try simp only [B4] at h5
            refine Lx I (Lx I (Lx I (Lx I (Lx I (Lx I (Lx I (Lq I (q_pick_t I I I) (Nk (c_true I (Cs I (Ak I (c_ret (k_then_ret (k_block_ret (k_then_ret (k_then_ret (k_block_ret (k_then_ret (r_one I I ?_)))))))))))))))))))
            exact fun _ h => ⟨_, rfl, trivial, h.nothing⟩
          · try simp only [B4] at h5
            refine Lm I (Lm I (Lm I (Lq I (q_indexV c I U25 Z40 I (fun _ h => hO.o.keep h (by simp [dom])) I I (by omega)) (Lq I (q_loadV c 0 I G40 I I (fun _ h => hO.o.keep h (by simp [dom])) hs I) (Lq I (q_lenV I U40 I (fun _ h => hrd.keep h (by simp [dom]))) (Lq I (q_geq I I I) (Lq I (q_pick_f I I I) (Nk ?_))))))))
            refine Pre.caseB 64 I (fun h6 => ?_) (fun h6 => ?_)
            · try simp only [B4] at h6
              refine c_true I (Cs I (Ak I (c_ret (k_then_ret (k_block_ret (k_then_ret (k_then_ret (k_block_ret (k_then_ret (r_one I I ?_))))))))))
              exact fun _ h => ⟨_, rfl, trivial, h.nothing⟩
            · try simp only [B4] at h6
              obtain ⟨o, ho⟩ : ∃ o, lo[kd]? = some o := ⟨_, List.getElem?_eq_getElem (by omega)⟩
              refine c_false I (c_skip (Kt (Cs I (Lm I (Lm I (Lq I (q_indexV c I U25 Z40 I (fun _ h => hO.o.keep h (by simp [dom])) I I (by omega)) (Lq I (q_loadV c 0 I G40 I I (fun _ h => hO.o.keep h (by simp [dom])) hs I) (Lm I (Lq I (q_indexV kd I U40 Z43 I (fun _ h => hrd.keep h (by simp [dom])) I I (by omega)) (Lq I (q_loadVAgg kd I G43 Z43 I I (fun _ h => hrd.keep h (by simp [dom])) ho) (l_e I (e_alloc I I I zeroValue43 ?_))))))))))))
              intro bo
              refine l_e I (e_storeAgg I I Z43 I I I (Opn.one _) (by show 0 + 4 ≤ 4; decide) (cells_eq (show Sep.splice _ 0 o.c = o.c from Sep.splice_all I) (Ns (Cs I (Lm I (Lm I (Lq I (q_indexV i I U34 Z71 I (fun _ h => hl.keep h (by simp [dom])) I I (by omega)) (Lfa U71 I Z4 I (Lq I (q_loadV i 2 I G4 I I (fun _ h => hl.keep h (by simp [dom])) hx I) (Nk (Sb 76 true I (hd) (c_true I (c_seq (c_seq (D8 [(0,O),(1,O),(2,O),(3,O),(4,O),(5,O),(6,O),(7,O),(8,O),(9,O),(10,O),(11,O),(12,O),(13,O),(14,O),(15,O),(16,W),(17,W),(18,W)] [16, 17, 18] [(_,O),(_,O),(_,O),(_,O),(_,O),(_,O),(_,O),(_,O),(_,O),(_,O),(_,O),(_,O),(_,O),(_,O),(_,O),(_,O),(_,W),(_,W),(_,W)] _ I I I I St.drawn Ih (Dm I (Dm I (Dq I (q_indexV c I U22 Z3 I (Hrd 2 I) I I (by omega)) (Dq I (q_loadV c 0 I G3 I I (Hrd 2 I) hkd I) (Dm I (Dm I (Dq I (q_indexV c I U22 Z3 I (Hrd 1 I) I I (by omega)) (Dq I (q_loadV c 0 I G3 I I (Hrd 1 I) hkb I) ?_)))))))))))))))))))))))
              refine Dq I (q_geq I I I) (Dm I ?_)
              refine Pre.caseB 86 I (fun h7 => ?_) (fun h7 => ?_)
              · try simp only [B4] at h7
                refine Dx I (Dx I (Dx I (Dx I (Dx I (Dx I (Dx I (Dx I (d_t I (e_q I I (q_pick_t I I I) (d_nil (Kt (c_true I (Cs I (Ak I (c_ret (k_then_ret (k_then_ret (k_block_ret (k_then_ret (k_then_ret (k_block_ret (k_then_ret (r_one I I ?_)))))))))))))))))))))))
                exact fun _ h => ⟨_, rfl, trivial, h.nothing⟩
              · try simp only [B4] at h7
                refine Dq I (q_loadCAgg (o.c) I G43 Z43 I (Hat 0 I) (I) (I)) (Dm I (Dm I (Dq I (q_indexV i I U34 Z71 I (fun _ h => hl.keep h (by simp [dom])) I I (by omega)) (Dfa U71 I Z58 I (Dq I (q_loadVPart i 3 I isAgg58 Z58 I I (fun _ h => hl.keep h (by simp [dom])) hx (by decide)) (Sv' 92 (.agg x.a.c.toArray) I (by show Value.agg (((Evt.c x).drop 3).take 19).toArray = _; rw [Evt.a_part]) (d_t I (e_call_00 (ranswer_ex o x.a) I I I call114 I Tt ?_))))))))
                intro ba _
                refine d_t I (e_q I I (q_not I I) (d_t I (e_q I I (q_pick_f I I I) (d_nil (Kt ?_)))))
                refine Pre.caseB 95 I (fun h8 => ?_) (fun h8 => ?_)
                · try simp only [B4] at h8
                  refine c_true I (Cs I (Ak I (c_ret (k_then_ret (k_then_ret (k_block_ret (k_then_ret (k_then_ret (k_block_ret (k_then_ret (r_one I I ?_)))))))))))
                  exact fun _ h => ⟨_, rfl, trivial, h.nothing⟩
                · try simp only [B4] at h8
                  refine c_false I (c_skip (Kt (Cs I (Lm I (Lm I (Lq I (q_indexV c I U22 Z3 I (Hrd 2 I) I I (by omega)) (Lq I (q_loadV c 0 I G3 I I (Hrd 2 I) hkd I) (Lq I (q_inc I I I (by omega)) (Lq I (q_indexV c I U22 Z3 I (Hrd 2 I) I I (by omega)) (pull2 (l_e I ?_)))))))))))
                  refine e_storeV c 0 (((kd + 1 : Nat) : Int)) I I Z3 I I I (List.getElem?_eq_getElem (by omega)) (by decide) I ?_
                  refine Nk (c_exit (k_then_exit (k_block_exit (Kt (Cr I (Lm I (Lq I (q_inc I I I (by omega)) (Las I (l_nil (pull1 (drop0 (pull1 ?_))))))))))))
                  exact k_round ((i + 1, lb, ld.set c ((kd + 1 : Nat) : Int))) (by dsimp only; omega) ⟨by dsimp only; omega, hbl, (by rw [List.length_set]; exact hdl), bd_up hbb, set_bd hdb hkdi⟩ (Sub.cons I (Sub.cons I (Sub.cons I (Sub.cons I (Sub.cons I (Sub.nil)))))) (fun _ h => h)
        · refine c_false I (c_skip (Ks (Cs I (Lm I (Lm I (Lq I (q_indexV i I U34 Z71 I (fun _ h => hl.keep h (by simp [dom])) I I (by omega)) (Lfa U71 I Z3 I (Lq I (q_loadV i 1 I G3 I I (fun _ h => hl.keep h (by simp [dom])) hx I) (Lm I (Lq I (q_neq I I I) (Lm I ?_)))))))))))
          refine Pre.caseB 56 I (fun h5 => ?_) (fun h5 => ?_)
          · try simp only [B4] at h5
            refine Lx I (Lx I (Lx I (Lx I (Lx I (Lx I (Lx I (Lq I (q_pick_t I I I) (Nk (c_true I (Cs I (Ak I (c_ret (k_then_ret (k_block_ret (k_then_ret (k_then_ret (k_block_ret (k_then_ret (r_one I I ?_)))))))))))))))))))
            exact fun _ h => ⟨_, rfl, trivial, h.nothing⟩
          · try simp only [B4] at h5
            refine Lm I (Lm I (Lm I (Lq I (q_indexV c I U25 Z40 I (fun _ h => hO.o.keep h (by simp [dom])) I I (by omega)) (Lq I (q_loadV c 0 I G40 I I (fun _ h => hO.o.keep h (by simp [dom])) hs I) (Lq I (q_lenV I U40 I (fun _ h => hrd.keep h (by simp [dom]))) (Lq I (q_geq I I I) (Lq I (q_pick_f I I I) (Nk ?_))))))))
            refine Pre.caseB 64 I (fun h6 => ?_) (fun h6 => ?_)
            · try simp only [B4] at h6
              refine c_true I (Cs I (Ak I (c_ret (k_then_ret (k_block_ret (k_then_ret (k_then_ret (k_block_ret (k_then_ret (r_one I I ?_))))))))))
              exact fun _ h => ⟨_, rfl, trivial, h.nothing⟩
            · try simp only [B4] at h6
              obtain ⟨o, ho⟩ : ∃ o, lo[kb]? = some o := ⟨_, List.getElem?_eq_getElem (by omega)⟩
              refine c_false I (c_skip (Kt (Cs I (Lm I (Lm I (Lq I (q_indexV c I U25 Z40 I (fun _ h => hO.o.keep h (by simp [dom])) I I (by omega)) (Lq I (q_loadV c 0 I G40 I I (fun _ h => hO.o.keep h (by simp [dom])) hs I) (Lm I (Lq I (q_indexV kb I U40 Z43 I (fun _ h => hrd.keep h (by simp [dom])) I I (by omega)) (Lq I (q_loadVAgg kb I G43 Z43 I I (fun _ h => hrd.keep h (by simp [dom])) ho) (l_e I (e_alloc I I I zeroValue43 ?_))))))))))))
              intro bo
              refine l_e I (e_storeAgg I I Z43 I I I (Opn.one _) (by show 0 + 4 ≤ 4; decide) (cells_eq (show Sep.splice _ 0 o.c = o.c from Sep.splice_all I) (Ns (Cs I (Lm I (Lm I (Lq I (q_indexV i I U34 Z71 I (fun _ h => hl.keep h (by simp [dom])) I I (by omega)) (Lfa U71 I Z4 I (Lq I (q_loadV i 2 I G4 I I (fun _ h => hl.keep h (by simp [dom])) hx I) (Nk (Sb 76 false I (hd) (c_false I (c_skip (Ks (c_seq (D8 [(0,O),(1,O),(2,O),(3,O),(4,O),(5,O),(6,O),(7,O),(8,O),(9,O),(10,O),(11,O),(12,O),(13,O),(14,O),(15,O),(16,W),(17,W),(18,W),(19,W),(20,W),(21,W),(22,W),(23,W),(24,W),(25,W),(26,W),(27,W)] [16, 17, 18, 19, 20, 21, 22, 23, 24, 25, 26, 27] [(_,O),(_,O),(_,O),(_,O),(_,O),(_,O),(_,O),(_,O),(_,O),(_,O),(_,O),(_,O),(_,O),(_,O),(_,O),(_,O),(_,W),(_,W),(_,W),(_,W),(_,W),(_,W),(_,W),(_,W),(_,W),(_,W),(_,W),(_,W)] _ I I I I St.drawn Ih (Dm I (Dm I (Dq I (q_indexV c I U22 Z3 I (Hrd 2 I) I I (by omega)) (Dq I (q_loadV c 0 I G3 I I (Hrd 2 I) hkd I) (Dm I (Dm I (Dq I (q_indexV c I U22 Z3 I (Hrd 1 I) I I (by omega)) ?_)))))))))))))))))))))))
              refine Dq I (q_loadV c 0 I G3 I I (Hrd 1 I) hkb I) (Dq I (q_neq I I I) (Dm I ?_))
              refine Pre.caseB 111 I (fun h7 => ?_) (fun h7 => ?_)
              · try simp only [B4] at h7
                refine Dx I (Dx I (Dx I (Dx I (Dx I (Dx I (Dx I (d_t I (e_q I I (q_pick_t I I I) (d_t I (e_q I I (q_move I I) (Dx I (Dx I (Dx I (d_t I (e_q I I (q_pick_t I I I) (d_t I (e_q I I (q_move I I) (Dx I (Dx I (Dx I (d_t I (e_q I I (q_pick_t I I I) (d_nil ?_)))))))))))))))))))))))
                refine Kt (c_true I (Cs I (Ak I (c_ret (k_then_ret (k_block_ret (k_then_ret (k_then_ret (k_block_ret (k_then_ret (r_one I I ?_)))))))))))
                exact fun _ h => ⟨_, rfl, trivial, h.nothing⟩
              · try simp only [B4] at h7
                refine Dm I (Dm I (Dq I (q_indexV i I U34 Z71 I (fun _ h => hl.keep h (by simp [dom])) I I (by omega)) (Dfa U71 I Z58 I (Dq I (q_loadVPart i 3 I isAgg58 Z58 I I (fun _ h => hl.keep h (by simp [dom])) hx (by decide)) (Dq I (q_build (ans0.c) I I (fun w => by kernel_rfl)) (Sv' 116 (.agg x.a.c.toArray) I (by show Value.agg (((Evt.c x).drop 3).take 19).toArray = _; rw [Evt.a_part]) (d_t I (e_q I I (q_neAn x.a hxw I I I) (d_t I (e_q I I (q_pick_f I I I) (d_t I (e_q I I (q_move I I) ?_))))))))))))
                refine Pre.caseB 120 I (fun h8 => ?_) (fun h8 => ?_)
                · refine Dx I (Dx I (Dx I (d_t I (e_q I I (q_pick_t I I I) (d_t I (e_q I I (q_move I I) (Dx I (Dx I (Dx I (d_t I (e_q I I (q_pick_t I I I) (d_nil (Kt (c_true I (Cs I (Ak I (c_ret (k_then_ret (k_block_ret (k_then_ret (k_then_ret (k_block_ret (k_then_ret ?_)))))))))))))))))))))))
                  refine r_one I I ?_
                  exact fun _ h => ⟨_, rfl, trivial, h.nothing⟩
                · refine d_t I (e_q I I (q_fieldAddr I U43 I Z3 I I) (d_t I (e_q I I (q_loadC I G3 I (Hat 0 I) I) (d_t I (e_q I I (q_lss I I I) (d_t I (e_q I I (q_pick_f I I I) (d_t I (e_q I I (q_move I I) ?_)))))))))
                  refine Pre.caseB 125 I (fun h9 => ?_) (fun h9 => ?_)
                  · try simp only [B4] at h9
                    refine Dx I (Dx I (Dx I (d_t I (e_q I I (q_pick_t I I I) (d_nil (Kt (c_true I (Cs I (Ak I (c_ret (k_then_ret (k_block_ret (k_then_ret (k_then_ret (k_block_ret (k_then_ret (r_one I I ?_)))))))))))))))))
                    exact fun _ h => ⟨_, rfl, trivial, h.nothing⟩
                  · try simp only [B4] at h9
                    refine d_t I (e_q I I (q_fieldAddr I U43 I Z3 I I) (d_t I (e_q I I (q_loadC I G3 I (Hat 0 I) I) (d_t I (e_q I I (q_gtr I I I) (d_t I (e_q I I (q_pick_f I I I) (d_nil (Kt ?_)))))))))
                    refine Pre.caseB 129 I (fun h10 => ?_) (fun h10 => ?_)
                    · try simp only [B4] at h10
                      refine c_true I (Cs I (Ak I (c_ret (k_then_ret (k_block_ret (k_then_ret (k_then_ret (k_block_ret (k_then_ret (r_one I I ?_))))))))))
                      exact fun _ h => ⟨_, rfl, trivial, h.nothing⟩
                    · try simp only [B4] at h10
                      refine c_false I (c_skip (Kt (Cr I (Lm I (Lm I (Lq I (q_indexV c I U22 Z3 I (Hrd 1 I) I I (by omega)) (Lq I (q_loadV c 0 I G3 I I (Hrd 1 I) hkb I) (Lq I (q_inc I I I (by omega)) (Lq I (q_indexV c I U22 Z3 I (Hrd 1 I) I I (by omega)) (pull1 (l_e I ?_)))))))))))
                      refine e_storeV c 0 (((kb + 1 : Nat) : Int)) I I Z3 I I I (List.getElem?_eq_getElem (by omega)) (by decide) I ?_
                      refine l_nil (k_block (Kt (Cr I (Lm I (Lq I (q_inc I I I (by omega)) (Las I (l_nil (pull1 (drop0 (pull1 (pull1 ?_)))))))))))
                      exact k_round ((i + 1, lb.set c ((kb + 1 : Nat) : Int), ld)) (by dsimp only; omega) ⟨by dsimp only; omega, (by rw [List.length_set]; exact hbl), hdl, set_bd hbb hkbi, bd_up hdb⟩ (Sub.cons I (Sub.cons I (Sub.cons I (Sub.cons I (Sub.cons I (Sub.nil)))))) (fun _ h => h)
  · try simp only [B4] at h1
    refine c_false I (c_exit (k_then_exit (k_then_exit (k_block_exit (Kt (Cs I (Ak I (c_ret (r_one I I ?_)))))))))
    exact fun _ h => ⟨_, rfl, trivial, h.nothing⟩
end Go.Proofs.YtloldofjddbjoaaGreat
namespace Go.Proofs.YtloldofjddbjoaaGreat
open Go.Sep Go.RowKit Tryz
def evOp (ops : List (List Opn)) (e : Evt) : Opn := (ops.getD e.cl.toNat []).getD e.ix.toNat ⟨0, ⟨#[]⟩, ⟨#[]⟩, 0, by decide, by decide⟩
def newC (ops : List (List Opn)) (i : Nat) (e : Evt) : Ca := ⟨e.cl, e.ix, evOp ops e, i, -1, ans0⟩
def toC (c : Ca) (i : Nat) : Ca := { c with to' := (i : Int) }
def ansC (i : Nat) (e : Evt) (c : Ca) : Ca := if c.client = e.cl ∧ c.index = e.ix then { toC c i with a := e.a } else c
def callS (ops : List (List Opn)) (l : List Ca) (i : Nat) (e : Evt) : List Ca := if e.d = true then l.map (ansC i e) else l ++ [newC ops i e]
def callsOf (ops : List (List Opn)) (evs : List Evt) : Nat → List Ca
  | 0 => []
  | i + 1 => match evs[i]? with | some e => callS ops (callsOf ops evs i) i e | none => callsOf ops evs i
theorem calls_succ {ops : List (List Opn)} {evs : List Evt} {i : Nat} {x : Evt} (h : evs[i]? = some x) : callsOf ops evs (i + 1) = callS ops (callsOf ops evs i) i x := by simp only [callsOf, h]
theorem calls_len (ops : List (List Opn)) (evs : List Evt) : ∀ i, (callsOf ops evs i).length ≤ i
  | 0 => Nat.le_refl _
  | i + 1 => by
    have ih := calls_len ops evs i
    simp only [callsOf]
    split
    · unfold callS
      split
      · rw [List.length_map]; omega
      · rw [List.length_append]; simp; omega
    · omega
theorem set_to (c : Ca) (i : Nat) : (Ca.c c).set 7 (.int .i64 (i : Int)) = Ca.c (toC c i) := rfl
theorem set_an (c : Ca) (a : Ans) : Sep.splice (Ca.c c) 8 (Ans.c a) = Ca.c { c with a := a } := by
  have e : ∀ c : Ca, Ca.c c = ([.int .i64 c.client, .int .i64 c.index] ++ (c.op.c ++ [.int .i64 c.from', .int .i64 c.to'])) ++ (c.a.c ++ []) := fun c => by simp [Ca.c, List.append_assoc]
  rw [e, e]
  exact Sep.splice_mid (a := [.int .i64 c.client, .int .i64 c.index] ++ (c.op.c ++ [.int .i64 c.from', .int .i64 c.to'])) (b := c.a.c) (c := []) (vs := a.c) (k := 8) I (by rw [Ans.c_len, Ans.c_len])
def EvOk (ops : List (List Opn)) (l : List Evt) : Prop := ∀ x ∈ l, (Lit.int .i64 x.a.code).wf = true ∧ ∃ (c k : Nat) (lo : List Opn) (o : Opn), x.cl = (c : Int) ∧ x.ix = (k : Int) ∧ ops[c]? = some lo ∧ lo[k]? = some o ∧ evOp ops x = o
theorem set_get {α : Type} {l : List α} {c : Nat} {x : α} (h : l[c]? = some x) : l.set c x = l := by
  refine List.ext_getElem? (fun j => ?_)
  rw [List.getElem?_set]
  split
  · rename_i hj; subst hj; have := (List.getElem?_eq_some_iff.1 h).1; rw [if_pos this, h]
  · rfl
theorem ans_step {f : Ca → Ca} {l : List Ca} {j : Nat} {y : Ca} (h : l[j]? = some y) : ((l.take j).map f ++ l.drop j).set j (f y) = (l.take (j + 1)).map f ++ l.drop (j + 1) := by
  have hj := (List.getElem?_eq_some_iff.1 h).1
  have hd : l.drop j = y :: l.drop (j + 1) := by
    rw [← (List.getElem?_eq_some_iff.1 h).2]; exact List.drop_eq_getElem_cons hj
  rw [hd, List.set_append_right _ _ (by rw [List.length_map, List.length_take]; omega), List.length_map, List.length_take, show j - min j l.length = 0 from by omega, List.take_add_one, h, List.map_append]
  simp [List.append_assoc]
theorem bool_two {b : Bool} {Q : Prop} (h1 : b = true → Q) (h2 : b = false → Q) : Q := by cases b; exact h2 rfl; exact h1 rfl
theorem bca (a b : Int) (o : Opn) (i : Nat) (w : World) : (Instr.build 60 #[(0, .int .i64 a), (1, .int .i64 b), (2, .agg o.c.toArray), (3, .int .i64 (i : Int)), (4, .int .i64 (-1))]).run Tryz.prog w = .ok (.agg (Ca.c ⟨a, b, o, (i : Int), -1, ans0⟩).toArray) w := by kernel_rfl
theorem rcalls_ex {va vo : Value} (l : List Evt) (vs : List Sv) (ops : List (List Opn)) (hn : l.length ≤ 65536) (hk : ops.length ≤ 65536) (hm : ∀ o ∈ ops, o.length ≤ 65536) (hW : EvOk ops l) : Con Tryz.prog 29 [va, vo] (fun w => RdV w va Evt.enc l ∧ RRo w vo vs ops) [] (fun v : Value × Bool => v.1) (fun _ => True) (fun v => [rowE v.1 60 Ca.enc (if v.2 = true then callsOf ops l l.length else [])]) := by
  intro w hE hH
  obtain ⟨hl, hO⟩ := hE
  have hvl := hO.len
  refine enter (n := 81) (vs := [va, vo]) (St w [] []) func29 I I I (St.init hH) ?_
  refine Cs I (Ak I (Cs I (Ak I (c_seq (Cs I (Lm I (Lm I (row0 60 Ca.enc none (l_e I (e_call_00 (rcheck_ex l vs ops hn hk hm (fun x hx => (hW x hx).1)) I I I call66 I (fun _ h => ⟨hl.keep h (by simp [dom]), hO.keep h⟩) ?_))))))))))
  intro b0 _
  refine Lq I (q_not I I) (Nk ?_)
  refine Pre.caseB 12 I (fun h0 => ?_) (fun h0 => ?_)
  · try simp only [B4] at h0
    refine c_true I (Cs I (Lm I (Ak I (c_ret (k_then_ret (r_one I I ?_))))))
    exact fun _ h => ⟨(_, b0), rfl, trivial, by dsimp only; rw [h0]; exact h⟩
  · try simp only [B4] at h0
    refine c_false I (c_skip (Ks (Cs I (Ak I (c_block ?_)))))
    refine c_loop2 (fun (i : Nat) (v : Value) => [(0, va), (1, vo), (5, v), (6, .int .i64 (i : Int))]) (fun (i : Nat) (v : Value) => St w [] [rowE v 60 Ca.enc (callsOf ops l i)]) (fun (i : Nat) (v : Value) => i ≤ l.length) (fun (i : Nat) (v : Value) => l.length - i) (0) (.slice none 0 0) (Nat.zero_le _) (Sn I (Sn I (Sn I (Sn I (Sub.nil))))) Ih ?_
    intro i v hi
    refine c_seq (c_seq ?_)
    have hcl := calls_len ops l i
    refine Cr I (Lm I (Lm I (Lq I (q_lenV I U34 I (fun _ h => hl.keep h (by simp [dom]))) (Lq I (q_lss I I I) (Nk ?_)))))
    refine Pre.caseB 17 I (fun h1 => ?_) (fun h1 => ?_)
    · try simp only [B4] at h1
      obtain ⟨x, hx⟩ : ∃ x, l[i]? = some x := ⟨_, List.getElem?_eq_getElem (by omega)⟩
      have hcs := calls_succ (ops := ops) hx
      obtain ⟨_, c, k, lo, o, hc, hxk, hlo, ho, hop⟩ := hW x (List.mem_of_getElem? hx)
      have hclt := (List.getElem?_eq_some_iff.1 hlo).1
      have hklt := (List.getElem?_eq_some_iff.1 ho).1
      obtain ⟨s, hs⟩ : ∃ s, vs[c]? = some s := ⟨_, List.getElem?_eq_getElem (by omega)⟩
      have hrd := hO.i c s lo hs hlo
      refine c_true I (c_skip (Ks (c_block (Cs I (Lm I (Lm I (Lq I (q_indexV i I U34 Z71 I (fun _ h => hl.keep h (by simp [dom])) I I (by omega)) (Lq I (q_loadVAgg i I isAgg71 Z71 I I (fun _ h => hl.keep h (by simp [dom])) hx) (l_e I (e_alloc I I I zeroValue71 ?_))))))))))
      intro be
      refine l_e I (e_storeAgg I I Z71 I I (Evt.c_len _) (Evt.one _) (by show 0 + (Evt.c x).length ≤ 22; rw [Evt.c_len]; decide) (cells_eq (show Sep.splice _ 0 x.c = x.c from Sep.splice_all (by rw [Evt.c_len]; rfl)) (Ns (Cs I (Lfa U71 I Z4 I (Lo G4 0 I (Lq I (q_not I I) (Nk ?_))))))))
      refine bool_two (b := x.d) (fun hd => ?_) (fun hd => ?_)
      · have hcd : callsOf ops l (i + 1) = (callsOf ops l i).map (ansC i x) := by rw [hcs]; unfold callS; rw [if_pos hd]
        refine Sb 26 false I (by rw [hd]; rfl) (c_false I (c_skip (Kt (Cs I (Ak I (c_block (pull1 ?_)))))))
        refine c_loop2 (fun (j : Nat) (v : Value) => [(0, va), (1, vo), (5, v), (6, .int .i64 (i : Int)), (7, .pointer (some ⟨be, 0, none⟩)), (8, .int .i64 (j : Int))]) (fun (j : Nat) (v : Value) => St w [] [rowE v 60 Ca.enc (((callsOf ops l i).take j).map (ansC i x) ++ (callsOf ops l i).drop j), cellsE be 71 x.c]) (fun (j : Nat) (v : Value) => j ≤ (callsOf ops l i).length) (fun (j : Nat) (v : Value) => (callsOf ops l i).length - j) (0) (v) (Nat.zero_le _) (Sn I (Sn I (Sn I (Sn I (Sn I (Sn I (Sub.nil))))))) Ih ?_
        intro j v hj
        refine c_seq (c_seq ?_)
        have hll : (((callsOf ops l i).take j).map (ansC i x) ++ (callsOf ops l i).drop j).length = (callsOf ops l i).length := by rw [List.length_append, List.length_map, List.length_take, List.length_drop]; omega
        refine Cr I (Lm I (Lm I (Lq I (q_lenV I U36 I (Hrd 0 I)) (Lq I (q_lss I I I) (Nk ?_)))))
        refine Pre.caseB 48 I (fun h2 => ?_) (fun h2 => ?_)
        · try simp only [B4] at h2
          obtain ⟨y, hyo⟩ : ∃ y, (callsOf ops l i)[j]? = some y := ⟨_, List.getElem?_eq_getElem (by omega)⟩
          have hy : (((callsOf ops l i).take j).map (ansC i x) ++ (callsOf ops l i).drop j)[j]? = some y := by rw [List.getElem?_append_right (by rw [List.length_map, List.length_take]; omega), List.length_map, List.length_take, List.getElem?_drop]; rw [show j + (j - min j (callsOf ops l i).length) = j from by omega]; exact hyo
          have hstep : ((callsOf ops l i).take (j + 1)).map (ansC i x) ++ (callsOf ops l i).drop (j + 1) = (((callsOf ops l i).take j).map (ansC i x) ++ (callsOf ops l i).drop j).set j (ansC i x y) := by rw [← ans_step hyo]
          refine c_true I (c_skip (Ks (c_block (c_seq (D8 [(0,O),(1,O),(2,O),(3,O),(4,O),(5,O),(6,O),(7,O),(8,O),(9,O),(10,O),(11,O),(12,O),(13,O),(14,O),(15,O),(16,W),(17,W)] [16, 17] [(_,O),(_,O),(_,O),(_,O),(_,O),(_,O),(_,O),(_,O),(_,O),(_,O),(_,O),(_,O),(_,O),(_,O),(_,O),(_,O),(_,W),(_,W)] _ I I I I St.drawn Ih (Dm I (Dm I (Dq I (q_indexV j I U36 Z60 I (Hrd 0 I) I I (by omega)) (Dfa U60 I Z3 I (Dq I (q_loadV j 0 I G3 I I (Hrd 0 I) hy I) (Dfa U71 I Z3 I (Dq I (q_loadC I G3 I (Hat 1 I) I) (Dq I (q_eql I I I) (Dm I ?_))))))))))))))
          refine Pre.caseB 59 I (fun h3 => ?_) (fun h3 => ?_)
          · try simp only [B4] at h3
            refine Dm I (Dm I (Dq I (q_indexV j I U36 Z60 I (Hrd 0 I) I I (by omega)) (Dfa U60 I Z3 I (Dq I (q_loadV j 1 I G3 I I (Hrd 0 I) hy I) (Dfa U71 I Z3 I (Dq I (q_loadC I G3 I (Hat 1 I) I) (d_t I (e_q I I (q_eql I I I) (d_t I (e_q I I (q_pick_t I I I) (d_nil (Kt ?_))))))))))))
            refine Pre.caseB 68 I (fun h4 => ?_) (fun h4 => ?_)
            · try simp only [B4] at h4
              have hans : ansC i x y = { toC y i with a := x.a } := by unfold ansC; rw [if_pos ⟨h3, h4⟩]
              have hls : ((((callsOf ops l i).take j).map (ansC i x) ++ (callsOf ops l i).drop j).set j (toC y i)).length = (((callsOf ops l i).take j).map (ansC i x) ++ (callsOf ops l i).drop j).length := List.length_set
              refine c_true I (Cs I (Lm I (Lm I (Lm I (Lq I (q_indexV j I U36 Z60 I (Hrd 0 I) I I (by omega)) (Lfa U60 I Z3 I (l_e I (e_storeV j 7 ((toC y i)) I I Z3 I I I hy (by decide) (set_to y i) (Nk (Cr I (Lm I (Lm I (Lfa U71 I Z58 I (Lq I (q_loadCAgg (x.a.c) I isAgg58 Z58 I (Hat 1 I) (Evt.a_part _) (Ans.c_len _)) (Lq I (q_indexV j I U36 Z60 I (Hrd 0 I) I I (by omega)) (Lfa U60 I Z58 I ?_))))))))))))))))
              have hy2 : ((((callsOf ops l i).take j).map (ansC i x) ++ (callsOf ops l i).drop j).set j (toC y i))[j]? = some (toC y i) := List.getElem?_set_self (by omega)
              refine l_e I (e_storeVPart j 8 ({ toC y i with a := x.a } : Ca) I I Z58 I I I hy2 (Ans.c_len _) (by decide) (Ans.one _) (set_an _ _) (row_eq (List.set_set ..) (l_nil (k_block (Kt (Cr I (Lm I (Lq I (q_inc I I I (by omega)) (Las I (l_nil ?_))))))))))
              rw [hans] at hstep
              refine pull1 (pull1 ?_)
              exact k_round ((j + 1, v)) (by dsimp only; omega) (by dsimp only; omega) (Sub.cons I (Sub.cons I (Sub.cons I (Sub.cons I (Sub.cons I (Sub.cons I (Sub.nil))))))) (fun _ h => by dsimp only; rw [hstep]; exact h)
            · try simp only [B4] at h4
              have hans : ansC i x y = y := by unfold ansC; rw [if_neg (fun e => h4 e.2)]
              rw [hans, set_get hy] at hstep
              refine c_false I (c_skip (k_block (Kt (Cr I (Lm I (Lq I (q_inc I I I (by omega)) (Las I (l_nil (pull1 (pull1 ?_))))))))))
              exact k_round ((j + 1, v)) (by dsimp only; omega) (by dsimp only; omega) (Sub.cons I (Sub.cons I (Sub.cons I (Sub.cons I (Sub.cons I (Sub.cons I (Sub.nil))))))) (fun _ h => by dsimp only; rw [hstep]; exact h)
          · try simp only [B4] at h3
            have hans : ansC i x y = y := by unfold ansC; rw [if_neg (fun e => h3 e.1)]
            rw [hans, set_get hy] at hstep
            refine Dx I (Dx I (Dx I (Dx I (Dx I (Dx I (Dx I (Dx I (d_t I (e_q I I (q_pick_f I I I) (d_nil (Kt (c_false I (c_skip (k_block (Kt (Cr I (Lm I (Lq I (q_inc I I I (by omega)) (Las I (l_nil (pull1 (pull1 ?_))))))))))))))))))))))
            exact k_round ((j + 1, v)) (by dsimp only; omega) (by dsimp only; omega) (Sub.cons I (Sub.cons I (Sub.cons I (Sub.cons I (Sub.cons I (Sub.cons I (Sub.nil))))))) (fun _ h => by dsimp only; rw [hstep]; exact h)
        · try simp only [B4] at h2
          have hje : j = (callsOf ops l i).length := by omega
          have hfin : ((callsOf ops l i).take j).map (ansC i x) ++ (callsOf ops l i).drop j = callsOf ops l (i + 1) := by rw [hcd, hje, List.take_length, List.drop_length, List.append_nil]
          refine c_false I (c_exit (k_then_exit (k_then_exit (k_block_exit (k_block (Kt (Cr I (Lm I (Lq I (q_inc I I I (by omega)) (Las I (l_nil (pull1 (drop0 ?_)))))))))))))
          exact k_round ((i + 1, v)) (by dsimp only; omega) (by dsimp only; omega) (Sub.cons I (Sub.cons I (Sub.cons I (Sub.cons I (Sub.nil))))) (fun _ h => by dsimp only; rw [← hfin]; exact h)
      · have hcd : callsOf ops l i ++ [newC ops i x] = callsOf ops l (i + 1) := by rw [hcs]; unfold callS; rw [if_neg (by rw [hd]; decide)]
        have hcn : newC ops i x = ⟨x.cl, x.ix, o, i, -1, ans0⟩ := by unfold newC; rw [hop]
        refine Sb 26 true I (by rw [hd]; rfl) (c_true I (c_seq (D8 [(0,O),(1,O),(2,O),(3,O),(4,O),(5,O),(6,O),(7,O),(8,O),(9,O),(10,O),(11,O),(12,O),(13,O),(14,O),(15,O),(16,V),(17,W),(18,W)] [17, 18] [(_,O),(_,O),(_,O),(_,O),(_,O),(_,O),(_,O),(_,O),(_,O),(_,O),(_,O),(_,O),(_,O),(_,O),(_,O),(_,O),(_,V),(_,W),(_,W)] (fun w2 => RdV w2 vo encSv vs ∧ RdV w2 s.v Opn.enc lo ∧ (cellsE be 71 x.c).at w2) I I I I St.drawn (fun _ h => ⟨hO.o.keep h (by simp [dom]), hrd.keep h (by simp [dom]), h.at 0 rfl⟩) (Dm I (Dfa U71 I Z3 I (Dq I (q_loadC I G3 I (fun _ h => h.2.2) I) (Dfa U71 I Z3 I (Dq I (q_loadC I G3 I (fun _ h => h.2.2) I) (Dm I (Dfa U71 I Z3 I (Dq I (q_loadC I G3 I (fun _ h => h.2.2) I) (Dq I (q_indexV c I U25 Z40 I (fun _ h => h.1) I hc (by omega)) (Dq I (q_loadV c 0 I G40 I I (fun _ h => h.1) hs I) (Dfa U71 I Z3 I (Dq I (q_loadC I G3 I (fun _ h => h.2.2) I) (Dq I (q_indexV k I U40 Z43 I (fun _ h => h.2.1) I hxk (by omega)) (Dq I (q_loadVAgg k I G43 Z43 I I (fun _ h => h.2.1) ho) (Dm I (Dq I (q_build ((newC ops i x).c) I I (fun w => (by rw [hcn]; exact bca _ _ _ _ w))) (d_e I (e_buildSliceV (sz := 27) [.tmp 42] I I I I I U36 Z60 I zeroValue60 (by simp [Value.cells, Ca.c_len]) ?_)))))))))))))))))))))
        intro b3
        refine d_held (fun _ h => ⟨hO.o.keep h (by simp [dom]), hrd.keep h (by simp [dom]), h.at 1 rfl⟩) (pull2 (d_t I (e_append I I I U36 U36 info60 I I I I I (fun _ h => lit_rd (h.at 1 I) Ca.enc [(newC ops i x)] I I) (by simp only [byt60, List.length_append, List.length_cons, List.length_nil]; omega) (by simp only [List.length_append, List.length_cons, List.length_nil]; omega) ?_)))
        intro v2
        refine row_eq (hcd) (pull1 (drop0 (d_t I (e_q I I (q_assign I I) (d_nil (Kt (c_exit (k_then_exit (k_block_exit (Kt (Cr I (Lm I (Lq I (q_inc I I I (by omega)) (Las I (l_nil (pull1 (drop0 ?_)))))))))))))))))
        exact k_round ((i + 1, v2)) (by dsimp only; omega) (by dsimp only; omega) (Sub.cons I (Sub.cons I (Sub.cons I (Sub.cons I (Sub.nil))))) (fun _ h => h)
    · try simp only [B4] at h1
      have hie : i = l.length := by omega
      subst hie
      refine c_false I (c_exit (k_then_exit (k_then_exit (k_block_exit (Kt (Cs I (Lm I (Ak I (c_ret (r_one I I ?_))))))))))
      exact fun _ h => ⟨(v, b0), rfl, trivial, by dsimp only; rw [h0]; exact h⟩
def CaF (ops : List (List Opn)) (evs : List Evt) (i : Nat) (c : Ca) : Prop := ∃ (p : Nat) (x : Evt), p < i ∧ evs[p]? = some x ∧ x.d = false ∧ c.client = x.cl ∧ c.index = x.ix ∧ c.from' = (p : Int) ∧ c.op = evOp ops x ∧
  ((c.to' = -1 ∧ ∀ (q : Nat) (y : Evt), p < q → q < i → evs[q]? = some y → y.d = true → ¬ (y.cl = x.cl ∧ y.ix = x.ix)) ∨ ∃ (q : Nat) (y : Evt), p < q ∧ q < i ∧ evs[q]? = some y ∧ y.d = true ∧ y.cl = x.cl ∧ y.ix = x.ix ∧ c.to' = (q : Int) ∧ c.a = y.a)
theorem CaF.up {ops : List (List Opn)} {evs : List Evt} {i : Nat} {c : Ca} (h : CaF ops evs i c) (hn : ∀ (p : Nat) (x y : Evt), p < i → evs[p]? = some x → c.client = x.cl → c.index = x.ix → evs[i]? = some y → y.d = true → ¬ (y.cl = x.cl ∧ y.ix = x.ix)) : CaF ops evs (i + 1) c := by
  obtain ⟨p, x, h1, h2, h3, h4, h5, h6, h7, h8⟩ := h
  refine ⟨p, x, by omega, h2, h3, h4, h5, h6, h7, ?_⟩
  rcases h8 with ⟨h8, h9⟩ | ⟨q, y, g1, g2, g⟩
  · refine .inl ⟨h8, fun q y hq1 hq2 hy hd => ?_⟩
    by_cases e : q = i
    · subst e; exact hn p x y h1 h2 h4 h5 hy hd
    · exact h9 q y hq1 (by omega) hy hd
  · exact .inr ⟨q, y, g1, by omega, g⟩
theorem calls_fact (ops : List (List Opn)) (evs : List Evt) : ∀ i, ∀ c ∈ callsOf ops evs i, CaF ops evs i c
  | 0, c, hc => by cases hc
  | i + 1, c, hc => by
    have ih := calls_fact ops evs i
    cases he : evs[i]? with
    | none =>
      have hc2 : c ∈ callsOf ops evs i := by simpa only [callsOf, he] using hc
      exact (ih c hc2).up (fun p x y _ _ _ _ hy _ => by rw [he] at hy; cases hy)
    | some e =>
      rw [calls_succ he] at hc
      unfold callS at hc
      split at hc
      · rename_i hd
        obtain ⟨c0, hc0, rfl⟩ := List.mem_map.1 hc
        obtain ⟨p, x, h1, h2, h3, h4, h5, h6, h7, h8⟩ := ih c0 hc0
        unfold ansC
        split
        · rename_i hid
          exact ⟨p, x, by omega, h2, h3, h4, h5, h6, h7, .inr ⟨i, e, h1, by omega, he, hd, by rw [← hid.1, h4], by rw [← hid.2, h5], rfl, rfl⟩⟩
        · rename_i hid
          refine (ih c0 hc0).up (fun p x y _ hx h4 h5 hy _ hn => ?_)
          rw [he] at hy; cases hy
          exact hid ⟨h4.trans hn.1.symm, h5.trans hn.2.symm⟩
      · rename_i hd
        rcases List.mem_append.1 hc with hc | hc
        · refine (ih c hc).up (fun p x y _ hx h4 h5 hy hyd => ?_)
          rw [he] at hy; cases hy
          exact absurd hyd hd
        · rw [List.mem_singleton.1 hc]
          refine ⟨i, e, by omega, he, by simpa using hd, rfl, rfl, rfl, rfl, .inl ⟨rfl, fun q y h1 h2 => by omega⟩⟩
theorem evOp_ids (ops : List (List Opn)) {x y : Evt} (h1 : y.cl = x.cl) (h2 : y.ix = x.ix) : evOp ops y = evOp ops x := by unfold evOp; rw [h1, h2]
theorem calls_order {ops : List (List Opn)} {evs : List Evt}
    (hA : ∀ (p : Nat) (x : Evt), evs[p]? = some x → x.d = false → ∃ (q : Nat) (y : Evt), p < q ∧ evs[q]? = some y ∧ y.d = true ∧ y.cl = x.cl ∧ y.ix = x.ix)
    (hM : ∀ (p q : Nat) (x y : Evt), p < q → evs[p]? = some x → evs[q]? = some y → x.d = true → y.d = true → (evOp ops x).kind = 4 → (evOp ops y).kind = 4 → vnum x.a.v ≤ vnum y.a.v)
    {a b : Ca} (ha : a ∈ callsOf ops evs evs.length) (hb : b ∈ callsOf ops evs evs.length) (h4 : a.op.kind = 4) (h5 : b.op.kind = 4) (hbf : bef a b = true) : vnum a.a.v ≤ vnum b.a.v := by
  unfold bef at hbf
  simp only [Bool.and_eq_true, decide_eq_true_eq] at hbf
  obtain ⟨p1, x1, a1, a2, a3, a4, a5, a6, a7, a8⟩ := calls_fact ops evs _ a ha
  obtain ⟨p2, x2, b1, b2, b3, b4, b5, b6, b7, b8⟩ := calls_fact ops evs _ b hb
  rcases a8 with ⟨e, _⟩ | ⟨q1, y1, c1, c2, c3, c4, c5, c6, c7, c8⟩
  · omega
  rcases b8 with ⟨e, hno⟩ | ⟨q2, y2, d1, d2, d3, d4, d5, d6, d7, d8⟩
  · obtain ⟨q, y, g1, g2, g3, g4, g5⟩ := hA p2 x2 b2 b3
    exact absurd ⟨g4, g5⟩ (hno q y g1 (List.getElem?_eq_some_iff.1 g2).1 g2 g3)
  · rw [c8, d8]
    exact hM q1 q2 y1 y2 (by omega) c3 d3 c4 d4 (by rw [evOp_ids ops c5 c6, ← a7]; exact h4) (by rw [evOp_ids ops d5 d6, ← b7]; exact h5)
def addS (l : List Opn) : Int := (l.map (fun o => if o.kind = 3 then o.by' else 0)).sum
def addN (l : List Opn) : Nat := (l.map (fun o => if o.kind = 3 then 1 else 0)).sum
def sumN (cs : List Cl) : Int := (cs.map (fun c => addS (c.ops.take c.nx))).sum
def cntN (cs : List Cl) : Nat := (cs.map (fun c => addN (c.ops.take c.nx))).sum
def curV : List En → Int
  | [] => 0
  | e :: _ => vnum e.val
theorem sumI_set {α : Type} {f : α → Int} : ∀ {l : List α} {t : Nat} {c d : α}, l[t]? = some c → ((l.set t d).map f).sum = (l.map f).sum - f c + f d
  | [], t, c, d, h => by cases t <;> cases h
  | x :: l, 0, c, d, h => by cases h; simp only [List.set_cons_zero, List.map_cons, List.sum_cons]; omega
  | x :: l, t + 1, c, d, h => by
    have ih := sumI_set (f := f) (l := l) (t := t) (c := c) (d := d) (by simpa using h)
    simp only [List.set_cons_succ, List.map_cons, List.sum_cons, ih]; omega
theorem sum_setN {α : Type} {f : α → Nat} : ∀ {l : List α} {t : Nat} {c d : α}, l[t]? = some c → ((l.set t d).map f).sum + f c = (l.map f).sum + f d
  | [], t, c, d, h => by cases t <;> cases h
  | x :: l, 0, c, d, h => by cases h; simp only [List.set_cons_zero, List.map_cons, List.sum_cons]; omega
  | x :: l, t + 1, c, d, h => by
    have ih := sum_setN (f := f) (l := l) (t := t) (c := c) (d := d) (by simpa using h)
    simp only [List.set_cons_succ, List.map_cons, List.sum_cons]; omega
theorem addS_snoc (l : List Opn) (o : Opn) : addS (l ++ [o]) = addS l + if o.kind = 3 then o.by' else 0 := by unfold addS; simp
theorem addN_snoc (l : List Opn) (o : Opn) : addN (l ++ [o]) = addN l + if o.kind = 3 then 1 else 0 := by unfold addN; simp
theorem addS_pos : ∀ {l : List Opn}, (∀ o ∈ l, 0 ≤ o.by') → 0 ≤ addS l
  | [], _ => by decide
  | o :: l, h => by
    have ih := addS_pos (l := l) (fun x hx => h x (List.mem_cons_of_mem _ hx))
    have h0 := h o (List.mem_cons_self ..)
    unfold addS at ih ⊢
    simp only [List.map_cons, List.sum_cons]
    split <;> omega
theorem addS_app (a b : List Opn) : addS (a ++ b) = addS a + addS b := by unfold addS; simp
theorem addS_take {l : List Opn} (h : ∀ o ∈ l, 0 ≤ o.by') (n : Nat) : addS (l.take n) ≤ addS l := by
  have e := addS_app (l.take n) (l.drop n)
  rw [List.take_append_drop] at e
  have := addS_pos (l := l.drop n) (fun o ho => h o (List.mem_of_mem_drop ho))
  omega
theorem sum_le_sum {f g : Cl → Int} : ∀ {cs : List Cl}, (∀ c ∈ cs, f c ≤ g c) → (cs.map f).sum ≤ (cs.map g).sum
  | [], _ => Int.le_refl _
  | c :: cs, h => by
    have ih := sum_le_sum (cs := cs) (fun x hx => h x (List.mem_cons_of_mem _ hx))
    have h0 := h c (List.mem_cons_self ..)
    simp only [List.map_cons, List.sum_cons]; omega
theorem sumN_le {cs : List Cl} {ops : List (List Opn)} {B : Int} (ho : cs.map Cl.ops = ops) (hp : ∀ l ∈ ops, ∀ o ∈ l, 0 ≤ o.by') (hb : (ops.map addS).sum ≤ B) : sumN cs ≤ B := by
  refine Int.le_trans (sum_le_sum (g := fun c => addS c.ops) (fun c hc => addS_take (hp c.ops (by rw [← ho]; exact List.mem_map_of_mem hc)) c.nx)) ?_
  rw [← ho, List.map_map] at hb
  exact hb
theorem nx_S {c : Cl} (h : c.nx < c.ops.length) : addS (c.done.ops.take c.done.nx) = addS (c.ops.take c.nx) + (if c.op.kind = 3 then c.op.by' else 0) := by
  show addS (c.ops.take (c.nx + 1)) = _
  rw [List.take_add_one, op_at h, ← addS_snoc]; rfl
theorem nx_N {c : Cl} (h : c.nx < c.ops.length) : addN (c.done.ops.take c.done.nx) = addN (c.ops.take c.nx) + (if c.op.kind = 3 then 1 else 0) := by
  show addN (c.ops.take (c.nx + 1)) = _
  rw [List.take_add_one, op_at h, ← addN_snoc]; rfl
structure Ad (k : Kv 8) (ops : List (List Opn)) (B : Int) (m : HM) : Prop where
  os : m.cs.map Cl.ops = ops
  kd : ∀ l ∈ ops, ∀ o ∈ l, (o.kind = 3 ∨ o.kind = 4) ∧ 0 ≤ o.by'
  bd : (ops.map addS).sum ≤ B
  nr : ∀ c ∈ m.cs, ∀ a, c.ph ≠ .rm a
  rd : ∀ c ∈ m.cs, (∃ a, c.ph = .rd a) → c.op.kind = 4
  ev : EvOk ops m.ev
  an : ∀ (p : Nat) (x : Evt), m.ev[p]? = some x → x.d = false → (∃ (q : Nat) (y : Evt), p < q ∧ m.ev[q]? = some y ∧ y.d = true ∧ y.cl = x.cl ∧ y.ix = x.ix) ∨ ∃ (t : Nat) (c : Cl), x.cl = (t : Int) ∧ m.cs[t]? = some c ∧ x.ix = (c.nx : Int) ∧ c.ph ≠ .idle
  mo : ∀ (p q : Nat) (x y : Evt), p < q → m.ev[p]? = some x → m.ev[q]? = some y → x.d = true → y.d = true → (evOp ops x).kind = 4 → (evOp ops y).kind = 4 → vnum x.a.v ≤ vnum y.a.v
  le : ∀ x ∈ m.ev, x.d = true → (evOp ops x).kind = 4 → vnum x.a.v ≤ curV (mapL m.L)
  su : (mapL m.L = [] ∧ cntN m.cs = 0 ∧ sumN m.cs = 0) ∨ ∃ v, mapL m.L = [⟨k, v⟩] ∧ 0 < cntN m.cs ∧ vnum v = sumN m.cs
theorem vnum_0 : vnum (kv0 16) = 0 := by decide +kernel
theorem one_find {k : Kv 8} {es : List En} (h : OneK k es) : vnum (lfind es k).1 = curV es := by
  obtain ⟨_, h2, h3⟩ := one_lput h (m := ⟨1, 0, k, kv0 16, 0, by decide, by decide, by decide⟩) rfl
  rcases h with rfl | ⟨v, _, rfl⟩
  · rw [h3 rfl]; exact vnum_0
  · rw [h2 v rfl]; rfl
theorem step_way {k : Kv 8} {m : HM} {t : Nat} {c : Cl} (h : One k m) (hi : Inv m) (hw : Wop m) (hc : m.cs[t]? = some c) (hpre : preC (t : Int) m.L c) (hr : ∀ a, c.ph ≠ .rm a) (hrd : (∃ a, c.ph = .rd a) → c.op.kind = 4) (hk : c.nx < c.ops.length → c.op.kind = 3 ∨ c.op.kind = 4) :
    c.nx < c.ops.length ∧ (∀ a, (stepC (t : Int) m.L c).2.1.ph ≠ .rm a) ∧ ((∃ a, (stepC (t : Int) m.L c).2.1.ph = .rd a) → c.op.kind = 4) ∧
    ((mapL (stepC (t : Int) m.L c).1 = mapL m.L ∧ (stepC (t : Int) m.L c).2.1.nx = c.nx ∧ (stepC (t : Int) m.L c).2.1.ph ≠ .idle ∧ (((stepC (t : Int) m.L c).2.2.2 = [] ∧ c.ph ≠ .idle) ∨ (stepC (t : Int) m.L c).2.2.2 = [evB t c])) ∨
    (mapL (stepC (t : Int) m.L c).1 = mapL m.L ∧ (stepC (t : Int) m.L c).2.1 = c.done ∧ c.op.kind = 4 ∧ ∃ f v, (stepC (t : Int) m.L c).2.2.2 = [evD t c ⟨0, f, v⟩] ∧ vnum v = curV (mapL m.L)) ∨
    (mapL (stepC (t : Int) m.L c).1 = lput (mapL m.L) (mOf c.op) ∧ (stepC (t : Int) m.L c).2.1 = c.done ∧ c.op.kind = 3 ∧ (stepC (t : Int) m.L c).2.2.2 = [evD t c ans0])) := by
  have hcm := List.mem_of_getElem? hc
  have hms := map_step (t := (t : Int)) hi.lok hpre
  have hlt : c.nx < c.ops.length := by
    by_cases e : c.ph = .idle
    · unfold preC at hpre; rw [e] at hpre; exact hpre.1
    · exact (hi.ops c hcm).2.2 e
  have hkk := hk hlt
  have hes := h.es
  have hok := h.ops c hcm _ (op_mem hlt)
  have hww := hw.w c hcm
  obtain ⟨ops, nx, ph⟩ := c
  refine ⟨hlt, ?_⟩
  cases ph with
  | idle =>
    have hm2 : mapL (stepC (t : Int) m.L ⟨ops, nx, .idle⟩).1 = mapL m.L := rfl
    have e : (stepC (t : Int) m.L ⟨ops, nx, .idle⟩).2.1 = ⟨ops, nx, if (Cl.op ⟨ops, nx, .idle⟩).kind = 4 then .rd 1 else .wr 0⟩ := rfl
    rw [e]
    by_cases h4 : (Cl.op ⟨ops, nx, .idle⟩).kind = 4
    · rw [if_pos h4]
      exact ⟨fun a e => (by cases e), fun _ => h4, .inl ⟨hm2, rfl, by simp, .inr rfl⟩⟩
    · rw [if_neg h4]
      exact ⟨fun a e => (by cases e), fun ⟨a, e⟩ => (by cases e), .inl ⟨hm2, rfl, by simp, .inr rfl⟩⟩
  | rd a =>
    have h4 := hrd ⟨a, rfl⟩
    match a, hpre with
    | 1, _ =>
      refine ⟨fun a e => (by cases e), fun _ => h4, .inl ⟨?_, rfl, by show Ph.rd _ ≠ .idle; simp, .inl ⟨rfl, by simp⟩⟩⟩
      rcases hms with ⟨e, _⟩ | ⟨e, _⟩
      · cases e
      · exact e
    | 2, _ =>
      refine ⟨fun a e => (by cases e), fun _ => h4, .inl ⟨?_, rfl, by show Ph.rd _ ≠ .idle; simp, .inl ⟨rfl, by simp⟩⟩⟩
      rcases hms with ⟨e, _⟩ | ⟨e, _⟩
      · cases e
      · exact e
    | 3, _ =>
      refine ⟨fun a e => (by cases e), fun _ => h4, .inl ⟨?_, rfl, by show Ph.rd _ ≠ .idle; simp, .inl ⟨rfl, by simp⟩⟩⟩
      rcases hms with ⟨e, _⟩ | ⟨e, _⟩
      · cases e
      · exact e
    | 5, hp =>
      refine ⟨fun a e => (by cases e), fun ⟨a, e⟩ => (by cases e), .inr (.inl ⟨?_, rfl, h4, _, _, rfl, ?_⟩)⟩
      · rcases hms with ⟨e, _⟩ | ⟨e, _⟩
        · cases e
        · exact e
      · have h2 : m.L.r.st = 2 := hp.1
        rw [mapL_at h2] at hes ⊢
        rw [show kOf (Cl.op ⟨ops, nx, .rd 5⟩) = k from hok]
        exact one_find hes
  | wr a =>
    have h3 : (Cl.op ⟨ops, nx, .wr a⟩).kind = 3 := by
      rcases hww (.inl ⟨a, rfl⟩) with e | e
      · rcases hkk with g | g <;> omega
      · exact e
    match a, hpre with
    | 0, _ =>
      refine ⟨fun a e => (by cases e), fun ⟨a, e⟩ => (by cases e), .inl ⟨?_, rfl, by show Ph.wr _ ≠ .idle; simp, .inl ⟨rfl, by simp⟩⟩⟩
      rcases hms with ⟨e, _⟩ | ⟨e, _⟩
      · cases e
      · exact e
    | 1, _ =>
      refine ⟨fun a e => (by cases e), fun ⟨a, e⟩ => (by cases e), .inl ⟨?_, rfl, by show Ph.wr _ ≠ .idle; simp, .inl ⟨rfl, by simp⟩⟩⟩
      rcases hms with ⟨e, _⟩ | ⟨e, _⟩
      · cases e
      · exact e
    | 2, _ =>
      refine ⟨fun a e => (by cases e), fun ⟨a, e⟩ => (by cases e), .inl ⟨?_, rfl, by show Ph.wr _ ≠ .idle; simp, .inl ⟨rfl, by simp⟩⟩⟩
      rcases hms with ⟨e, _⟩ | ⟨e, _⟩
      · cases e
      · exact e
    | 3, hp =>
      have hfit : fitL (lfd (lput (lfe m.L) (mOf (Cl.op ⟨ops, nx, .wr 3⟩)))) = true := by
        have h9 := h.put hcm hi hlt (.inr h3)
        rw [mapL_at hp.1] at h9
        exact one_fit h.ck h9
      rcases hms with ⟨_, _, _, e6, e7, e8⟩ | ⟨_, e⟩
      · rw [e7, e8]
        exact ⟨fun a e => (by cases e), fun ⟨a, e⟩ => (by cases e), .inr (.inr ⟨e6, rfl, h3, rfl⟩)⟩
      · have := (e rfl).2
        rw [hfit] at this; cases this
  | rm a => exact absurd rfl (hr a)
theorem app_at {α : Type} {l r : List α} (hr : r.length ≤ 1) {q : Nat} {y : α} (h : (l ++ r)[q]? = some y) : (q < l.length ∧ l[q]? = some y) ∨ (q = l.length ∧ r = [y]) := by
  by_cases hq : q < l.length
  · rw [List.getElem?_append_left hq] at h; exact .inl ⟨hq, h⟩
  · rw [List.getElem?_append_right (by omega)] at h
    match r, hr with
    | [], _ => simp at h
    | [z], _ =>
      have h0 : q - l.length = 0 := by have := (List.getElem?_eq_some_iff.1 h).1; simp at this; omega
      rw [h0] at h
      cases h
      exact .inr ⟨by omega, rfl⟩
theorem evOp_at {ops : List (List Opn)} {x : Evt} {t : Nat} {c : Cl} (hct : ops[t]? = some c.ops) (h : c.nx < c.ops.length) (h1 : x.cl = (t : Int)) (h2 : x.ix = (c.nx : Int)) : evOp ops x = c.op := by
  unfold evOp
  rw [h1, h2, Int.toNat_natCast, Int.toNat_natCast, List.getD_eq_getElem?_getD, List.getD_eq_getElem?_getD, hct]
  show (c.ops[c.nx]?).getD _ = _
  rw [op_at h]; rfl
theorem Ad.common {k : Kv 8} {ops : List (List Opn)} {B : Int} {m m' : HM} (h : Ad k ops B m) {t : Nat} {c c' : Cl} {evs : List Evt} (hc : m.cs[t]? = some c) (e1 : m'.cs = m.cs.set t c') (e2 : m'.ev = m.ev ++ evs) (ho : c'.ops = c.ops) (hlt : c.nx < c.ops.length) (w1 : ∀ a, c'.ph ≠ .rm a) (w2 : (∃ a, c'.ph = .rd a) → c'.op.kind = 4)
    (hv : evs = [] ∨ evs = [evB t c] ∨ ∃ a, evs = [evD t c a] ∧ (Lit.int .i64 a.code).wf = true) (ha : (c'.nx = c.nx ∧ c'.ph ≠ .idle) ∨ ∃ a, evs = [evD t c a])
    (hmo : ∀ y ∈ evs, y.d = true → (evOp ops y).kind = 4 → vnum y.a.v = curV (mapL m.L)) (hup : curV (mapL m.L) ≤ curV (mapL m'.L))
    (hsu : (mapL m'.L = [] ∧ cntN m'.cs = 0 ∧ sumN m'.cs = 0) ∨ ∃ v, mapL m'.L = [⟨k, v⟩] ∧ 0 < cntN m'.cs ∧ vnum v = sumN m'.cs) : Ad k ops B m' := by
  have hcm := List.mem_of_getElem? hc
  have hlt8 := (List.getElem?_eq_some_iff.1 hc).1
  have hct : ops[t]? = some c.ops := by rw [← h.os, List.getElem?_map, hc]; rfl
  have hself : (m.cs.set t c')[t]? = some c' := List.getElem?_set_self hlt8
  have hlen : evs.length ≤ 1 := by
    rcases hv with e | e | ⟨a, e, _⟩ <;> rw [e] <;> simp
  refine ⟨?_, h.kd, h.bd, fun d hd => ?_, fun d hd => ?_, fun x hx => ?_, fun p x hx hd => ?_, fun p q x y hpq hx hy hxd hyd hgx hgy => ?_, fun x hx hd hg => ?_, hsu⟩
  · rw [e1, List.map_set, h.os, ho]
    refine List.ext_getElem? (fun j => ?_)
    rw [List.getElem?_set]
    split
    · rename_i hj; subst hj
      have := (List.getElem?_eq_some_iff.1 hct).1
      rw [if_pos this, hct]
    · rfl
  · rw [e1] at hd
    rcases List.mem_or_eq_of_mem_set hd with e | e
    · exact h.nr d e
    · subst e; exact w1
  · rw [e1] at hd
    rcases List.mem_or_eq_of_mem_set hd with e | e
    · exact h.rd d e
    · subst e; exact w2
  · rw [e2] at hx
    rcases List.mem_append.1 hx with hx | hx
    · exact h.ev x hx
    · have hop := op_at hlt
      rcases hv with e | e | ⟨a, e, hwf⟩
      · rw [e] at hx; cases hx
      · rw [e] at hx; rw [List.mem_singleton.1 hx]
        exact ⟨show (Lit.int .i64 0).wf = true by decide, t, c.nx, c.ops, c.op, rfl, rfl, hct, hop, evOp_at hct hlt I rfl⟩
      · rw [e] at hx; rw [List.mem_singleton.1 hx]
        exact ⟨hwf, t, c.nx, c.ops, c.op, rfl, rfl, hct, hop, evOp_at hct hlt I rfl⟩
  · rw [e2] at hx
    rcases app_at hlen hx with ⟨hp, hx⟩ | ⟨hp, he⟩
    · rcases h.an p x hx hd with ⟨q, y, g1, g2, g⟩ | ⟨u, d, g1, g2, g3, g4⟩
      · exact .inl ⟨q, y, g1, by rw [e2, List.getElem?_append_left (List.getElem?_eq_some_iff.1 g2).1]; exact g2, g⟩
      · by_cases hu : u = t
        · subst hu
          rw [hc] at g2; cases g2
          rcases ha with ⟨g5, g6⟩ | ⟨a, e⟩
          · exact .inr ⟨u, c', g1, by rw [e1]; exact hself, by rw [g5]; exact g3, g6⟩
          · exact .inl ⟨m.ev.length, evD u c a, hp, by rw [e2, e, List.getElem?_append_right (Nat.le_refl _), Nat.sub_self]; rfl, rfl, g1.symm, g3.symm⟩
        · exact .inr ⟨u, d, g1, by rw [e1, List.getElem?_set_ne (Ne.symm hu)]; exact g2, g3, g4⟩
    · rcases hv with e | e | ⟨a, e, _⟩
      · rw [e] at he; cases he
      · rw [e] at he; cases he
        rcases ha with ⟨g5, g6⟩ | ⟨a, e3⟩
        · exact .inr ⟨t, c', rfl, by rw [e1]; exact hself, by rw [g5]; rfl, g6⟩
        · rw [e] at e3; cases e3
      · rw [e] at he; cases he; cases hd
  · rw [e2] at hx hy
    rcases app_at hlen hy with ⟨hq, hy⟩ | ⟨hq, he⟩
    · rcases app_at hlen hx with ⟨_, hx⟩ | ⟨hp, _⟩
      · exact h.mo p q x y hpq hx hy hxd hyd hgx hgy
      · omega
    · have hm := hmo y (by rw [he]; exact List.mem_singleton.2 rfl) hyd hgy
      rw [hm]
      rcases app_at hlen hx with ⟨_, hx⟩ | ⟨hp, _⟩
      · exact h.le x (List.mem_of_getElem? hx) hxd hgx
      · omega
  · rw [e2] at hx
    rcases List.mem_append.1 hx with hx | hx
    · exact Int.le_trans (h.le x hx hd hg) hup
    · rw [hmo x hx hd hg]; exact hup
theorem Ad.step {k : Kv 8} {ops : List (List Opn)} {B : Int} {m : HM} (h : Ad k ops B m) (h1 : One k m) (hi : Inv m) (hw : Wop m) (hB : B < 18446744073709551616) (p : Int) : Ad k ops B (stepH m p) := by
  rcases stepH_cases hi p with ⟨e, _⟩ | ⟨t, c, hc, h0, hpre, e⟩
  · rw [e]; exact h
  · rw [e]
    have hcm := List.mem_of_getElem? hc
    have hco : c.ops ∈ ops := by rw [← h.os]; exact List.mem_map_of_mem hcm
    obtain ⟨hlt, w1, w2, w3⟩ := step_way h1 hi hw hc hpre (h.nr c hcm) (h.rd c hcm) (fun hl => (h.kd _ hco _ (op_mem hl)).1)
    have hcs := client_cs hc
    have hL := client_L hc
    have hev := client_ev hc
    have hops := stepC_ops (t : Int) m.L c
    have hkd := h.kd _ hco _ (op_mem hlt)
    have hpos : ∀ l ∈ ops, ∀ o ∈ l, 0 ≤ o.by' := fun l hl o ho => (h.kd l hl o ho).2
    have hct : ops[t]? = some c.ops := by rw [← h.os, List.getElem?_map, hc]; rfl
    have hos2 : (m.cs.set t (stepC (t : Int) m.L c).2.1).map Cl.ops = ops := by
      rw [List.map_set, h.os, hops]
      refine List.ext_getElem? (fun j => ?_)
      rw [List.getElem?_set]
      split
      · rename_i hj; subst hj
        have := (List.getElem?_eq_some_iff.1 hct).1
        rw [if_pos this, hct]
      · rfl
    rcases w3 with ⟨g1, g2, g3, g4⟩ | ⟨g1, g2, g3, f, v, g4, g5⟩ | ⟨g1, g2, g3, g4⟩
    · have hop : (stepC (t : Int) m.L c).2.1.op = c.op := by unfold Cl.op; rw [hops, g2]
      have hs : sumN (m.cs.set t (stepC (t : Int) m.L c).2.1) = sumN m.cs := by unfold sumN; rw [sumI_set hc, hops, g2]; omega
      have hn : cntN (m.cs.set t (stepC (t : Int) m.L c).2.1) = cntN m.cs := by
        have := sum_setN (f := fun c => addN (c.ops.take c.nx)) (d := (stepC (t : Int) m.L c).2.1) hc
        unfold cntN; simp only [hops, g2] at this ⊢; omega
      refine h.common (c' := (stepC (t : Int) m.L c).2.1) (evs := (stepC (t : Int) m.L c).2.2.2) hc hcs hev hops hlt w1 (fun g => by rw [hop]; exact w2 g) (by rcases g4 with ⟨g4, _⟩ | g4; exact .inl g4; exact .inr (.inl g4)) (.inl ⟨g2, g3⟩) (fun y hy hd _ => ?_) (by show _ ≤ curV (mapL (m.client t).L); rw [hL, g1]; exact Int.le_refl _) ?_
      · rcases g4 with ⟨g4, _⟩ | g4
        · rw [g4] at hy; cases hy
        · rw [g4] at hy; rw [List.mem_singleton.1 hy] at hd; cases hd
      · show (mapL (m.client t).L = [] ∧ cntN (m.client t).cs = 0 ∧ sumN (m.client t).cs = 0) ∨ ∃ v, mapL (m.client t).L = [⟨k, v⟩] ∧ 0 < cntN (m.client t).cs ∧ vnum v = sumN (m.client t).cs
        rw [hL, g1, hcs, hs, hn]; exact h.su
    · have h4 : c.op.kind = 4 := g3
      have hs : sumN (m.cs.set t (stepC (t : Int) m.L c).2.1) = sumN m.cs := by unfold sumN; rw [sumI_set hc, g2, nx_S hlt, if_neg (by omega)]; omega
      have hn : cntN (m.cs.set t (stepC (t : Int) m.L c).2.1) = cntN m.cs := by
        have := sum_setN (f := fun c => addN (c.ops.take c.nx)) (d := (stepC (t : Int) m.L c).2.1) hc
        have h2 := nx_N hlt
        rw [if_neg (by omega)] at h2
        unfold cntN; simp only [g2, h2] at this ⊢; omega
      refine h.common (c' := (stepC (t : Int) m.L c).2.1) (evs := (stepC (t : Int) m.L c).2.2.2) hc hcs hev hops hlt w1 (fun ⟨a, g⟩ => by rw [g2] at g; cases g) (.inr (.inr ⟨_, g4, show (Lit.int .i64 0).wf = true by decide⟩)) (.inr ⟨_, g4⟩) (fun y hy _ _ => ?_) (by show _ ≤ curV (mapL (m.client t).L); rw [hL, g1]; exact Int.le_refl _) ?_
      · rw [g4] at hy; rw [List.mem_singleton.1 hy]; exact g5
      · show (mapL (m.client t).L = [] ∧ cntN (m.client t).cs = 0 ∧ sumN (m.client t).cs = 0) ∨ ∃ v, mapL (m.client t).L = [⟨k, v⟩] ∧ 0 < cntN (m.client t).cs ∧ vnum v = sumN (m.client t).cs
        rw [hL, g1, hcs, hs, hn]; exact h.su
    · have hs : sumN (m.cs.set t (stepC (t : Int) m.L c).2.1) = sumN m.cs + c.op.by' := by unfold sumN; rw [sumI_set hc, g2, nx_S hlt, if_pos g3]; omega
      have hn : 0 < cntN (m.cs.set t (stepC (t : Int) m.L c).2.1) := by
        have := sum_setN (f := fun c => addN (c.ops.take c.nx)) (d := (stepC (t : Int) m.L c).2.1) hc
        have h2 := nx_N hlt
        rw [if_pos g3] at h2
        unfold cntN; simp only [g2, h2] at this ⊢; omega
      have hle := sumN_le hos2 hpos h.bd
      have hsp : 0 ≤ sumN m.cs := by
        rcases h.su with ⟨_, _, e⟩ | ⟨v, _, _, e⟩
        · omega
        · rw [← e]; exact (vnum_bd v).1
      have hcur : curV (mapL m.L) = sumN m.cs := by
        rcases h.su with ⟨e1, _, e⟩ | ⟨v, e1, _, e⟩
        · rw [e1, e]; rfl
        · rw [e1, ← e]; rfl
      obtain ⟨v, _, hput, hv⟩ := one_new h1.es ((hi.ops c hcm).1 _ (op_mem hlt)).1 (h1.ops c hcm _ (op_mem hlt)) (.inr g3)
      have hfind := one_find h1.es
      have hnew : vnum v = sumN m.cs + c.op.by' := by
        rw [hv]
        unfold map'
        rw [if_neg (show ¬ (mOf c.op).kind = 1 by show ¬ c.op.kind = 1; omega), if_pos (show (mOf c.op).kind = 3 from g3)]
        show vnum (vplus _ (mOf c.op).by') = _
        have hb : (mOf c.op).by' = c.op.by' := if_pos g3
        rw [hb]
        have hx : vnum (if (lfind (mapL m.L) k).2 = true then (lfind (mapL m.L) k).1 else kv0 16) = sumN m.cs := by
          rw [← hcur, ← hfind]
          split
          · rfl
          · rename_i hf
            obtain ⟨_, q2, q3⟩ := one_lput h1.es (m := ⟨1, 0, k, kv0 16, 0, by decide, by decide, by decide⟩) rfl
            rcases h1.es with e | ⟨u, _, e⟩
            · rw [q3 e]
            · rw [q2 u e] at hf; exact absurd rfl hf
        have : vnum (vplus (if (lfind (mapL m.L) k).2 = true then (lfind (mapL m.L) k).1 else kv0 16) c.op.by') = IntKind.u64.wrap (vnum (if (lfind (mapL m.L) k).2 = true then (lfind (mapL m.L) k).1 else kv0 16) + c.op.by') := by
          have hw := wrap_bd (vnum (if (lfind (mapL m.L) k).2 = true then (lfind (mapL m.L) k).1 else kv0 16) + c.op.by')
          unfold vplus
          exact num_from _ hw.1 hw.2
        rw [this, hx, wrap_id (by omega) (by omega)]
      refine h.common (c' := (stepC (t : Int) m.L c).2.1) (evs := (stepC (t : Int) m.L c).2.2.2) hc hcs hev hops hlt w1 (fun ⟨a, g⟩ => by rw [g2] at g; cases g) (.inr (.inr ⟨_, g4, by decide⟩)) (.inr ⟨_, g4⟩) (fun y hy _ hg => ?_) ?_ ?_
      · rw [g4] at hy; rw [List.mem_singleton.1 hy, evOp_at hct hlt rfl rfl] at hg; omega
      · show _ ≤ curV (mapL (m.client t).L)
        rw [hL, g1, hput, hcur]
        show _ ≤ vnum v
        omega
      · show (mapL (m.client t).L = [] ∧ cntN (m.client t).cs = 0 ∧ sumN (m.client t).cs = 0) ∨ ∃ v, mapL (m.client t).L = [⟨k, v⟩] ∧ 0 < cntN (m.client t).cs ∧ vnum v = sumN (m.client t).cs
        rw [hL, g1, hput, hcs, hs]
        exact .inr ⟨v, rfl, hn, hnew⟩
def sumK : ByteArray := ⟨#[115, 117, 109]⟩
def aOp (b : Int) (h : (Lit.int .u64 b).wf = true) : Opn := ⟨3, sumK, ⟨#[]⟩, b, by decide, h⟩
def gOp : Opn := ⟨4, sumK, ⟨#[]⟩, 0, by decide, by decide⟩
def OA (o : Opn) : Prop := (o.kind = 3 ∨ o.kind = 4) ∧ o.key = sumK ∧ 0 ≤ o.by'
structure AO (k i : Nat) (ls : List (List Opn)) (s : Int) : Prop where
  len : ls.length = k
  ok : ∀ l ∈ ls, l.length ≤ 22 ∧ ∀ o ∈ l, OA o
  su : s = (ls.map addS).sum
  bd : 0 ≤ s ∧ s ≤ 255 * (i : Int)
  ad : 0 < i → 0 < (ls.map addN).sum
  z : i = 0 → ls = List.replicate k []
theorem rep_S (k : Nat) : ((List.replicate k ([] : List Opn)).map addS).sum = 0 := by
  induction k with
  | zero => rfl
  | succ k ih => rw [List.replicate_succ, List.map_cons, List.sum_cons, ih]; rfl
theorem AO.nil (k : Nat) : AO k 0 (List.replicate k []) 0 := ⟨List.length_replicate .., fun l hl => by
  rw [(List.mem_replicate.1 hl).2]; exact ⟨Nat.zero_le _, fun o ho => by cases ho⟩, (rep_S k).symm, ⟨by omega, by omega⟩, fun h => absurd h (Nat.lt_irrefl 0), fun _ => rfl⟩
theorem AO.set {k i : Nat} {ls : List (List Opn)} {s : Int} (h : AO k i ls s) {j : Nat} {l : List Opn} (hl : ls[j]? = some l) (h22 : l.length < 22) {o : Opn} (ho : OA o) : ∀ x ∈ ls.set j (l ++ [o]), x.length ≤ 22 ∧ ∀ o ∈ x, OA o := fun x hx => by
  have h0 := h.ok l (List.mem_of_getElem? hl)
  rcases List.mem_or_eq_of_mem_set hx with e | e
  · exact h.ok x e
  · subst e
    refine ⟨by simp; omega, fun q hq => ?_⟩
    rcases List.mem_append.1 hq with hq | hq
    · exact h0.2 q hq
    · rw [List.mem_singleton.1 hq]; exact ho
theorem AO.add {k i : Nat} {ls : List (List Opn)} {s : Int} (h : AO k i ls s) {j : Nat} {l : List Opn} (hl : ls[j]? = some l) (h22 : l.length < 22) {b : Int} (hb : 0 ≤ b ∧ b ≤ 255) (hw : (Lit.int .u64 b).wf = true) : AO k (i + 1) (ls.set j (l ++ [aOp b hw])) (s + b) := by
  have h1 := sumI_set (f := addS) (d := l ++ [aOp b hw]) hl
  have h2 := sum_setN (f := addN) (d := l ++ [aOp b hw]) hl
  rw [addS_snoc, if_pos (show (aOp b hw).kind = 3 from rfl)] at h1
  rw [addN_snoc, if_pos (show (aOp b hw).kind = 3 from rfl)] at h2
  refine ⟨by rw [List.length_set]; exact h.len, h.set hl h22 ⟨.inl rfl, rfl, hb.1⟩, ?_, ?_, fun _ => by omega, fun e => by omega⟩
  · rw [h1, ← h.su]; show s + b = s - addS l + (addS l + b); omega
  · have := h.bd; omega
theorem AO.not {k i : Nat} {ls : List (List Opn)} {s : Int} (h : AO k i ls s) {j : Nat} {l : List Opn} (hl : ls[j]? = some l) (h22 : ¬ l.length < 22) : AO k (i + 1) ls s := by
  have hi : 0 < i := Nat.pos_of_ne_zero (fun e => by
    have := h.z e
    rw [this] at hl
    have := (List.mem_replicate.1 (List.mem_of_getElem? hl)).2
    rw [this] at h22; exact h22 (by decide))
  exact ⟨h.len, h.ok, h.su, by have := h.bd; omega, fun _ => h.ad hi, fun e => by omega⟩
theorem AO.get {k i : Nat} {ls : List (List Opn)} {s : Int} (h : AO k (i + 1) ls s) {j : Nat} {l : List Opn} (hl : ls[j]? = some l) (h20 : l.length < 20) : AO k (i + 1) (ls.set j (l ++ [gOp])) s := by
  have h1 := sumI_set (f := addS) (d := l ++ [gOp]) hl
  have h2 := sum_setN (f := addN) (d := l ++ [gOp]) hl
  rw [addS_snoc, if_neg (show ¬ gOp.kind = 3 by decide)] at h1
  rw [addN_snoc, if_neg (show ¬ gOp.kind = 3 by decide)] at h2
  have h3 := h.ad (by omega)
  refine ⟨by rw [List.length_set]; exact h.len, h.set hl (by omega) ⟨.inr rfl, rfl, by decide⟩, ?_, h.bd, fun _ => by omega, fun e => by omega⟩
  rw [h1, ← h.su]; omega
theorem RWs_out : ∀ {us : List Sv} {ls : List (List Opn)} {j : Nat} {s : Sv} {l : List Opn}, us[j]? = some s → ls[j]? = some l → (RWs us ls).Perm (rowE s.v 43 Opn.enc l :: RWs (us.eraseIdx j) (ls.eraseIdx j))
  | [], _, j, s, l, h, _ => by cases h
  | _ :: _, [], j, s, l, _, h => by cases h
  | u :: us, x :: ls, 0, s, l, h1, h2 => by cases h1; cases h2; exact List.Perm.refl _
  | u :: us, x :: ls, j + 1, s, l, h1, h2 => by
    have ih := RWs_out (us := us) (ls := ls) (j := j) (s := s) (l := l) (by simpa using h1) (by simpa using h2)
    exact (List.Perm.cons (rowE u.v 43 Opn.enc x) ih).trans (List.Perm.swap _ _ _)
theorem RWs_in : ∀ {us : List Sv} {ls : List (List Opn)} {j : Nat} {s : Sv} {l : List Opn}, j < us.length → us.length = ls.length → (rowE s.v 43 Opn.enc l :: RWs (us.eraseIdx j) (ls.eraseIdx j)).Perm (RWs (us.set j s) (ls.set j l))
  | [], _, j, s, l, h, _ => by simp at h
  | _ :: _, [], j, s, l, _, h => by simp at h
  | u :: us, x :: ls, 0, s, l, _, _ => List.Perm.refl _
  | u :: us, x :: ls, j + 1, s, l, h1, h2 => by
    have ih := RWs_in (us := us) (ls := ls) (j := j) (s := s) (l := l) (by simpa using h1) (by simpa using h2)
    exact (List.Perm.swap _ _ _).trans (List.Perm.cons (rowE u.v 43 Opn.enc x) ih)
theorem RWs_mem : ∀ {us : List Sv} {ls : List (List Opn)} {j : Nat} {s : Sv} {l : List Opn}, us[j]? = some s → ls[j]? = some l → rowE s.v 43 Opn.enc l ∈ RWs us ls := fun h1 h2 => (RWs_out h1 h2).mem_iff.2 (List.mem_cons_self ..)
theorem rro_rws {w0 w : World} {D : List Nat} {H : List Ent} {vo : Value} {us : List Sv} {ls : List (List Opn)} (h : St w0 D H w) (ho : RdV w vo encSv us) (hn : us.length = ls.length) (hm : ∀ e ∈ RWs us ls, e ∈ H) : RRo w vo us ls :=
  ⟨ho, hn, fun i s l h1 h2 => rowE_rd (h.hp.holds _ (hm _ (RWs_mem h1 h2)))⟩
theorem rows0 {n : Nat} {L : Env} {w0 : World} {D : List Nat} {F : Act → World → Prop} : ∀ (k : Nat) {H : List Ent}, Pre n L (St w0 D (RWs (List.replicate k sv0) (List.replicate k []) ++ H)) F → Pre n L (St w0 D H) F
  | 0, H, h => h
  | k + 1, H, h => row0 43 Opn.enc none (rows0 k (H := rowE (.slice none 0 0) 43 Opn.enc [] :: H) (by
    refine Pre.world (St w0 D (RWs (List.replicate (k + 1) sv0) (List.replicate (k + 1) []) ++ H)) (fun w x => ?_) h
    exact x.perm List.perm_middle))
theorem Ad.start {k : Nat} {i : Nat} {ls : List (List Opn)} {s : Int} (h : AO k i ls s) (nb nf fl : Nat) : Ad (kOf gOp) ls s (hmS nb nf fl ls) := by
  have hcs : ∀ c ∈ (hmS nb nf fl ls).cs, ∃ l ∈ ls, c = cl0 l := fun c hc => by
    obtain ⟨l, hl, rfl⟩ := List.mem_map.1 (show c ∈ ls.map cl0 from hc)
    exact ⟨l, hl, rfl⟩
  refine ⟨?_, fun l hl o ho => ⟨((h.ok l hl).2 o ho).1, ((h.ok l hl).2 o ho).2.2⟩, Int.le_of_eq h.su.symm, fun c hc a e => ?_, fun c hc ⟨a, e⟩ => ?_, fun x hx => (by cases hx), fun p x hx => (by cases hx), fun p q x y _ hx => (by cases hx), fun x hx => (by cases hx), .inl ⟨mapL_no (by show ¬ (0 : Int) = 2; decide), ?_, ?_⟩⟩
  · show (ls.map cl0).map Cl.ops = ls
    rw [List.map_map]
    exact List.map_id _
  · obtain ⟨l, _, rfl⟩ := hcs c hc; cases e
  · obtain ⟨l, _, rfl⟩ := hcs c hc; cases e
  · show ((ls.map cl0).map _).sum = 0
    rw [List.map_map]
    clear h hcs
    induction ls with
    | nil => rfl
    | cons a ls ih => simp only [List.map_cons, List.sum_cons]; rw [show ((fun c : Cl => addN (c.ops.take c.nx)) ∘ cl0) a = 0 from rfl, ih]
  · show ((ls.map cl0).map _).sum = 0
    rw [List.map_map]
    clear h hcs
    induction ls with
    | nil => rfl
    | cons a ls ih => simp only [List.map_cons, List.sum_cons]; rw [show ((fun c : Cl => addS (c.ops.take c.nx)) ∘ cl0) a = 0 from rfl, ih]; rfl
theorem Ad.fin {k : Kv 8} {ops : List (List Opn)} {B : Int} {m : HM} (h : Ad k ops B m) (he : m.cs.all Cl.ended = true) : sumN m.cs = (ops.map addS).sum ∧ cntN m.cs = (ops.map addN).sum := by
  have h2 : ∀ c ∈ m.cs, c.ops.take c.nx = c.ops := fun c hc => by
    have hx := List.all_eq_true.1 he c hc
    unfold Cl.ended at hx
    simp only [Bool.and_eq_true, decide_eq_true_eq] at hx
    rw [hx.2, List.take_length]
  rw [← h.os, List.map_map, List.map_map]
  unfold sumN cntN
  constructor
  · congr 1; exact List.map_congr_left (fun c hc => by rw [h2 c hc]; rfl)
  · congr 1; exact List.map_congr_left (fun c hc => by rw [h2 c hc]; rfl)
theorem Ad.answered {k : Kv 8} {ops : List (List Opn)} {B : Int} {m : HM} (h : Ad k ops B m) (he : m.cs.all Cl.ended = true) : ∀ (p : Nat) (x : Evt), m.ev[p]? = some x → x.d = false → ∃ (q : Nat) (y : Evt), p < q ∧ m.ev[q]? = some y ∧ y.d = true ∧ y.cl = x.cl ∧ y.ix = x.ix := fun p x hx hd => by
  rcases h.an p x hx hd with g | ⟨t, c, _, g2, _, g4⟩
  · exact g
  · have hx := List.all_eq_true.1 he c (List.mem_of_getElem? g2)
    unfold Cl.ended at hx
    simp only [Bool.and_eq_true, decide_eq_true_eq] at hx
    exact absurd hx.1 g4
theorem kOf_sum {o : Opn} (h : o.key = sumK) : kOf o = kOf gOp := by
  obtain ⟨a, b, c, d, e, f⟩ := o
  cases h; rfl
theorem OA.ok {o : Opn} (h : OA o) : o.Ok ∧ (o.kind = 1 ∨ o.kind = 3 ∨ o.kind = 4) := ⟨⟨by rw [h.2.1]; decide, fun e => by rcases h.1 with g | g <;> omega⟩, .inr h.1⟩
structure AdI (ops : List (List Opn)) (B : Int) (m : HM) (i : Nat) : Prop where
  inv : Inv m
  one : One (kOf gOp) m
  wop : Wop m
  ad : Ad (kOf gOp) ops B m
  pk : m.pk ≤ i
  mu' : mu m + i ≤ 864
theorem AdI.start {k i : Nat} {ls : List (List Opn)} {s : Int} (h : AO k i ls s) (hk : k ≤ 4) {nf fl : Nat} (hf : fl ≤ 3) (h5 : 5 ≤ nf) : AdI ls s (hmS 8 nf fl ls) 0 := by
  have hl := h.len
  refine ⟨hmS_inv (by decide) h5 (by omega) (fun l hl o ho => ((h.ok l hl).2 o ho).ok), one0 8 nf fl (kOf_ck ⟨by decide, fun e => by cases e⟩) (fun l hl o ho => kOf_sum ((h.ok l hl).2 o ho).2.1), wop0 _ _ _ _, Ad.start h 8 nf fl, Nat.le_refl 0, ?_⟩
  have := mu_le (ls := ls) (fun l hl => Nat.le_trans (h.ok l hl).1 (by decide))
  show ((ls.map cl0).map muC).sum + 0 ≤ 864
  omega
theorem AdI.step {ops : List (List Opn)} {B : Int} {m : HM} {i : Nat} (h : AdI ops B m i) (hB : B < 18446744073709551616) (he : m.cs.all Cl.ended = false) (p : Int) : AdI ops B (stepH m p) (i + 1) := by
  have hs := h.inv.step p (h.one.small h.inv h.wop)
  have h2 := hs.2.2.1 he
  exact ⟨hs.1, h.one.step h.inv h.wop p, h.wop.step h.inv p, h.ad.step h.one h.inv h.wop hB p, by have := hs.2.2.2; have := h.pk; omega, by have := h.mu'; omega⟩
theorem mod_lt' {i k : Nat} (h : 1 ≤ k) : i % k < k := Nat.mod_lt _ (by omega)
theorem emod_nat (i k : Nat) : (i : Int) % (k : Int) = ((i % k : Nat) : Int) := (Int.natCast_emod i k).symm
def plc (v n : Int) : Int := v % n
theorem tmod_place {v n : Int} (hn : 0 < n) : (if v.tmod n < 0 then v.tmod n + n else v.tmod n) = v % n := by
  have h1 := Int.tmod_lt_of_pos v hn
  have h2 : -n < v.tmod n := Int.lt_tmod_of_pos v hn
  have h3 := Int.mul_tdiv_add_tmod v n
  have key : ∀ r : Int, 0 ≤ r → r < n → (∃ q, v = n * q + r) → r = v % n := by
    rintro r hr0 hr1 ⟨q, hq⟩
    rw [hq, Int.mul_add_emod_self_left, Int.emod_eq_of_lt hr0 hr1]
  split
  · exact key _ (by omega) (by omega) ⟨v.tdiv n - 1, by rw [Int.mul_sub]; omega⟩
  · exact key _ (by omega) (by omega) ⟨v.tdiv n, by omega⟩
theorem plc_spec (v n : Int) (hn : 0 < n) (hn2 : n ≤ 4611686018427387904) : Con Tryz.prog 27 [.int .i64 v, .int .i64 n] (fun _ => True) [] (fun _ : Unit => .int .i64 (v % n)) (fun _ => True) (fun _ => []) := by
  intro w hE hH
  have h1 := Int.tmod_lt_of_pos v hn
  have h2 : -n < v.tmod n := Int.lt_tmod_of_pos v hn
  have h3 := tmod_place (v := v) hn
  refine enter (n := 15) (vs := [.int .i64 v, .int .i64 n]) (St w [] []) func27 I I I (St.init hH) ?_
  refine Cs I (Ak I (Cs I (Lm I (Lm I (Lq I (q_rem I I I (by omega)) (Ak I (c_seq (Cs I (Lm I (Lq I (q_lss I I I) (Nk ?_)))))))))))
  refine Pre.caseB 10 I (fun h => ?_) (fun h => ?_)
  · simp only [B4] at h
    rw [if_pos h] at h3
    refine c_true I (Cr I (Lm I (Lm I (Lq I (q_add64 I I I (by omega)) (Ak I (Cs I (Lm I (Ak I (c_ret (r_one I I ?_))))))))))
    exact fun _ h => ⟨(), congrArg (fun z => Ending.returned (Value.int .i64 z)) h3, trivial, h⟩
  · simp only [B4] at h
    rw [if_neg h] at h3
    refine c_false I (c_skip (Kt (Cs I (Lm I (Ak I (c_ret (r_one I I ?_)))))))
    exact fun _ h => ⟨(), congrArg (fun z => Ending.returned (Value.int .i64 z)) h3, trivial, h⟩
theorem build27b (f m : Int) (a : Option Addr) (n c : Nat) (w : World) : (Instr.build 27 #[(0, .int .i64 8), (2, .int .i64 f), (1, .int .i64 m), (3, .slice a n c)]).run Tryz.prog w = .ok (.agg ([.int .i64 ((8 : Nat) : Int), .int .i64 m, .int .i64 f, .slice a n c] : List Value).toArray) w := by kernel_rfl
theorem build43a (b : Int) (h : (Lit.int .u64 b).wf = true) (w : World) : (Instr.build 43 #[(0, .int .i64 3), (1, .string ⟨#[115, 117, 109]⟩), (3, .int .u64 b)]).run Tryz.prog w = .ok (.agg (aOp b h).c.toArray) w := by kernel_rfl
theorem build43g (w : World) : (Instr.build 43 #[(0, .int .i64 4), (1, .string ⟨#[115, 117, 109]⟩)]).run Tryz.prog w = .ok (.agg gOp.c.toArray) w := by kernel_rfl
theorem conf_one (x y z : Int) (a : Option Addr) (m c : Nat) : ∀ v ∈ ([.int .i64 x, .int .i64 y, .int .i64 z, .slice a m c] : List Value), v.oneCell' = true := fun v hv => by
  simp only [List.mem_cons, List.not_mem_nil, or_false] at hv
  rcases hv with rfl | rfl | rfl | rfl <;> rfl
theorem perm3 {a b x : Ent} {R : List Ent} : (a :: b :: x :: R).Perm (x :: a :: b :: R) := ((List.Perm.swap x b R).cons a).trans (List.Perm.swap x a (b :: R))
theorem rows_out {a b : Ent} {us : List Sv} {ls : List (List Opn)} {j : Nat} {s : Sv} {l : List Opn} (h1 : us[j]? = some s) (h2 : ls[j]? = some l) : (a :: b :: RWs us ls).Perm (rowE s.v 43 Opn.enc l :: a :: b :: RWs (us.eraseIdx j) (ls.eraseIdx j)) := (((RWs_out h1 h2).cons b).cons a).trans perm3
theorem rows_in {a b : Ent} {us : List Sv} {ls : List (List Opn)} {j : Nat} {s : Sv} {l : List Opn} (hj : j < us.length) (hn : us.length = ls.length) : (rowE s.v 43 Opn.enc l :: a :: b :: RWs (us.eraseIdx j) (ls.eraseIdx j)).Perm (a :: b :: RWs (us.set j s) (ls.set j l)) := perm3.symm.trans (((RWs_in hj hn).cons b).cons a)
theorem b64 {b : Int} (h : (Lit.int .u8 b).wf = true) : (Lit.int .u64 b).wf = true := by
  have := Go.Sep.wf_u8 h
  simp only [Lit.wf, Bool.and_eq_true, decide_eq_true_eq]
  exact ⟨by show (0 : Int) ≤ _; omega, by show _ ≤ (2 ^ 64 - 1 : Int); omega⟩
theorem calls_ord {ops : List (List Opn)} {evs : List Evt} {b0 : Bool} {C : List Ca}
    (hA : ∀ (p : Nat) (x : Evt), evs[p]? = some x → x.d = false → ∃ (q : Nat) (y : Evt), p < q ∧ evs[q]? = some y ∧ y.d = true ∧ y.cl = x.cl ∧ y.ix = x.ix)
    (hM : ∀ (p q : Nat) (x y : Evt), p < q → evs[p]? = some x → evs[q]? = some y → x.d = true → y.d = true → (evOp ops x).kind = 4 → (evOp ops y).kind = 4 → vnum x.a.v ≤ vnum y.a.v)
    (hC : C = (if b0 = true then callsOf ops evs evs.length else [])) : ∀ a ∈ C, ∀ b ∈ C, a.op.kind = 4 → b.op.kind = 4 → bef a b = true → vnum a.a.v ≤ vnum b.a.v := fun a ha b hb h4 h5 h6 => by
  cases b0 with
  | false => rw [hC] at ha; cases ha
  | true => rw [hC] at ha hb; exact calls_order hA hM ha hb h4 h5 h6
theorem calls_ol {ops : List (List Opn)} {evs : List Evt} {b0 : Bool} {C : List Ca} (hC : C = (if b0 = true then callsOf ops evs evs.length else [])) : C.length ≤ evs.length := by
  cases b0 with
  | false => rw [hC]; exact Nat.zero_le _
  | true => rw [hC]; exact calls_len ops evs evs.length
theorem Ca.v_part (e : Ca) : (e.c.drop 10).take 17 = e.a.v.c := by
  show (e.a.v.c).take 17 = _
  exact List.take_of_length_le (by rw [Kv.c_len]; exact Nat.le_refl _)
theorem rep_N (k : Nat) : ((List.replicate k ([] : List Opn)).map addN).sum = 0 := by
  induction k with
  | zero => rfl
  | succ k ih => rw [List.replicate_succ, List.map_cons, List.sum_cons, ih]; rfl
theorem adds_spec {vb vp : Value} (n f0 : Int) (bs picks : List Int) (hbs : ∀ z ∈ bs, (Lit.int .u8 z).wf = true) (hbl : bs.length ≤ 9223372036854775807) (hpl : picks.length ≤ 9223372036854775807) : Con Tryz.prog 6 [.int .i64 n, .int .i64 f0, vb, vp] (fun w => RdV w vb (encI .u8) bs ∧ RdV w vp (encI .u8) picks) [] (fun _ : Unit => .bool true) (fun _ => True) (fun _ => []) := by
  intro w hE hH
  obtain ⟨hb, hp⟩ := hE
  obtain ⟨k, hk⟩ : ∃ k : Nat, 1 + n % 4 = (k : Int) := ⟨(1 + n % 4).toNat, by omega⟩
  have hk1 : 1 ≤ k := by omega
  have hk4 : k ≤ 4 := by omega
  obtain ⟨f, hf⟩ : ∃ f : Nat, f0 % 3 = (f : Int) := ⟨(f0 % 3).toNat, by omega⟩
  have hf2 : f ≤ 2 := by omega
  refine enter (n := 238) (vs := [.int .i64 n, .int .i64 f0, vb, vp]) (St w [] []) func6 I I I (St.init hH) ?_
  refine Cs I (Ak I (Cs I (Lm I (l_e I (e_call_00 (plc_spec n 4 (by decide) (by decide)) I I I call27 I Tt ?_)))))
  intro _ _
  refine Lq I (q_add64 I I I (by omega)) (Ak I (Cs I (Lm I (Sv' 9 (.int .i64 (k : Int)) I (by rw [hk]) (l_e I (e_call_00 (plc_spec f0 3 (by decide) (by decide)) I I I call27 I Tt ?_))))))
  intro _ _
  refine Ak I (c_seq (Sv' 10 (.int .i64 (f : Int)) I (by rw [hf]) (Cr I (Lm I (Lm I (Lm I (Lq I (q_add64 I I I (by omega)) (Lq I (q_mul64 I I I (by omega)) (Lq I (q_add64 I I I (by omega)) (Lm I (Sv' 31 (.int .i64 (((4 * (k + f) + 1 : Nat) : Int))) I (by rw [show 4 * ((k : Int) + (f : Int)) + 1 = ((4 * (k + f) + 1 : Nat) : Int) from by omega]) (l_e I (e_makeSlice encSv sv0 k I I I U25 info40 I I I I I I I (by simp only [byt40]; omega) (by omega) ?_)))))))))))))
  intro vo
  refine Pre.fact (fun _ h => row_sl (h.at 0 I)) ?_
  rintro ⟨a1, c2, rfl⟩
  refine Lq I (q_build ([.int .i64 ((8 : Nat) : Int), .int .i64 (((4 * (k + f) + 1 : Nat) : Int)), .int .i64 (f : Int), (.slice a1 (List.replicate k sv0).length c2)]) I I (build27b _ _ _ _ _)) (l_e I (e_alloc I I I zeroValue27 ?_))
  intro bc
  refine cells_eq (show _ = [.int .i64 0, .int .i64 0, .int .i64 0, .slice none 0 0] from I) (l_e I (e_storeAgg I I sizeOf27 I I I (conf_one _ _ _ _ _ _) (Nat.le_of_ble_eq_true I) (cells_eq (show _ = [.int .i64 ((8 : Nat) : Int), .int .i64 (((4 * (k + f) + 1 : Nat) : Int)), .int .i64 (f : Int), (.slice a1 (List.replicate k sv0).length c2)] from I) (Nk (Cs I (Ak I (c_seq (Cs I (Ak I (pull1 (rows0 k ?_)))))))))))
  refine Pre.world (St w [] (rowE (.slice a1 (List.replicate k sv0).length c2) 40 encSv (List.replicate k sv0) :: cellsE bc 27 [.int .i64 ((8 : Nat) : Int), .int .i64 (((4 * (k + f) + 1 : Nat) : Int)), .int .i64 (f : Int), (.slice a1 (List.replicate k sv0).length c2)] :: RWs (List.replicate k sv0) (List.replicate k []))) (fun _ h => h.perm List.perm_append_comm) ?_
  refine c_meet4 (fun (i : Nat) (ls : List (List Opn)) (us : List Sv) (s : Int) => [(2, vb), (3, vp), (9, .int .i64 (k : Int)), (11, ptV bc), (12, .int .u64 s)]) (fun (i : Nat) (ls : List (List Opn)) (us : List Sv) (s : Int) => St w [] (rowE (.slice a1 (List.replicate k sv0).length c2) 40 encSv us :: cellsE bc 27 [.int .i64 ((8 : Nat) : Int), .int .i64 (((4 * (k + f) + 1 : Nat) : Int)), .int .i64 (f : Int), (.slice a1 (List.replicate k sv0).length c2)] :: RWs us ls)) (fun (i : Nat) (ls : List (List Opn)) (us : List Sv) (s : Int) => us.length = k ∧ AO k i ls s ∧ i ≤ 40 ∧ (bs.length = 0 → i = 0) ∧ (0 < bs.length → 0 < i)) ?_ ?_
  · refine c_block ?_
    refine c_loop4 (fun (i : Nat) (ls : List (List Opn)) (us : List Sv) (s : Int) => [(2, vb), (3, vp), (9, .int .i64 (k : Int)), (11, ptV bc), (12, .int .u64 s), (13, .int .i64 (i : Int))]) (fun (i : Nat) (ls : List (List Opn)) (us : List Sv) (s : Int) => St w [] (rowE (.slice a1 (List.replicate k sv0).length c2) 40 encSv us :: cellsE bc 27 [.int .i64 ((8 : Nat) : Int), .int .i64 (((4 * (k + f) + 1 : Nat) : Int)), .int .i64 (f : Int), (.slice a1 (List.replicate k sv0).length c2)] :: RWs us ls)) (fun (i : Nat) (ls : List (List Opn)) (us : List Sv) (s : Int) => i ≤ 40 ∧ i ≤ bs.length ∧ us.length = k ∧ AO k i ls s) (fun (i : Nat) (ls : List (List Opn)) (us : List Sv) (s : Int) => 40 - i) (0) (List.replicate k []) (List.replicate k sv0) (0) ⟨Nat.zero_le _, Nat.zero_le _, List.length_replicate .., AO.nil k⟩ (Sn I (Sn I (Sn I (Sn I (Sn I (Sn I (Sub.nil))))))) Ih ?_
    intro i ls us s hpl
    refine c_seq (c_seq ?_)
    obtain ⟨hi, hib, hul, hao⟩ := hpl
    refine Cr I (Lm I (Lm I (Lq I (q_lenV I U23 I (fun _ h => hb.keep h (by simp [dom]))) (Lq I (q_lss I I I) (Lm I ?_)))))
    refine Pre.caseB 39 I (fun h1 => ?_) (fun h1 => ?_)
    · try simp only [B4] at h1
      refine Lm I (Lq I (q_lss I I I) (Lq I (q_pick_t I I I) (Nk ?_)))
      refine Pre.caseB 42 I (fun h2 => ?_) (fun h2 => ?_)
      · try simp only [B4] at h2
        obtain ⟨j, hj⟩ : ∃ j, j = i % k := ⟨_, rfl⟩
        have hjk : j < k := by rw [hj]; exact mod_lt' hk1
        have hll := hao.len
        obtain ⟨b, hbi⟩ : ∃ b, bs[i]? = some b := ⟨_, List.getElem?_eq_getElem (by omega)⟩
        have hbz := hbs b (List.mem_of_getElem? hbi)
        have hbw := b64 hbz
        have hb2 := Go.Sep.wf_u8 hbz
        refine c_true I (c_skip (Ks (c_block (c_seq (c_seq ?_)))))
        obtain ⟨s1, hs1⟩ : ∃ q, us[j]? = some q := ⟨_, List.getElem?_eq_getElem (by omega)⟩
        obtain ⟨l, hl⟩ : ∃ q, ls[j]? = some q := ⟨_, List.getElem?_eq_getElem (by omega)⟩
        refine Pre.world (St w [] (rowE (Sv.v s1) 43 Opn.enc l :: rowE (.slice a1 (List.replicate k sv0).length c2) 40 encSv us :: cellsE bc 27 [.int .i64 ((8 : Nat) : Int), .int .i64 (((4 * (k + f) + 1 : Nat) : Int)), .int .i64 (f : Int), (.slice a1 (List.replicate k sv0).length c2)] :: RWs (us.eraseIdx j) (ls.eraseIdx j))) (fun _ h => h.perm (rows_out hs1 hl)) ?_
        refine D8 [(0,O),(1,O),(2,O),(3,O),(4,O),(5,W),(6,W),(7,W),(8,W)] [5, 6, 7, 8] [(_,O),(_,O),(_,O),(_,O),(_,O),(_,W),(_,W),(_,W),(_,W)] _ I I I I St.drawn Ih (Dfa U27 I Z25 I (Dq I (q_loadC I G25 I (Hat 2 I) I) (Dm I (Dm I (Dq I (q_rem_nn I I I (by omega) (by omega)) (d_t I (e_q I I (q_indexV j I U25 Z40 I (Hrd 1 I) I (by rw [hj]; exact emod_nat i k) (by omega)) (d_t I (e_q I I (q_loadV j 0 I G40 I I (Hrd 1 I) hs1 I) (d_t I (e_q I I (q_lenV I U40 I (Hrd 0 I)) (d_t I (e_q I I (q_lss I I I) (d_nil (Kt ?_)))))))))))))))
        refine c_meet3 (fun (ls1 : List (List Opn)) (us1 : List Sv) (s0 : Int) => [(2, vb), (3, vp), (9, .int .i64 (k : Int)), (11, ptV bc), (12, .int .u64 s0), (13, .int .i64 (i : Int))]) (fun (ls1 : List (List Opn)) (us1 : List Sv) (s0 : Int) => St w [] (rowE (.slice a1 (List.replicate k sv0).length c2) 40 encSv us1 :: cellsE bc 27 [.int .i64 ((8 : Nat) : Int), .int .i64 (((4 * (k + f) + 1 : Nat) : Int)), .int .i64 (f : Int), (.slice a1 (List.replicate k sv0).length c2)] :: RWs us1 ls1)) (fun (ls1 : List (List Opn)) (us1 : List Sv) (s0 : Int) => us1.length = k ∧ AO k (i + 1) ls1 s0) ?_ ?_
        · refine Pre.caseB 53 I (fun h22 => ?_) (fun h22 => ?_)
          · try simp only [B4] at h22
            have hsb := hao.bd
            refine c_true I (c_seq (D8 [(0,O),(1,O),(2,O),(3,O),(4,O),(5,O),(6,O),(7,O),(8,O),(9,O),(10,O),(11,O),(12,O),(13,O),(14,O),(15,O),(16,O),(17,O),(18,V),(19,V),(20,W),(21,W)] [20, 21] [(_,O),(_,O),(_,O),(_,O),(_,O),(_,O),(_,O),(_,O),(_,O),(_,O),(_,O),(_,O),(_,O),(_,O),(_,O),(_,O),(_,O),(_,O),(_,V),(_,V),(_,W),(_,W)] (fun w2 => (cellsE bc 27 [.int .i64 ((8 : Nat) : Int), .int .i64 (((4 * (k + f) + 1 : Nat) : Int)), .int .i64 (f : Int), (.slice a1 (List.replicate k sv0).length c2)]).at w2 ∧ RdV w2 (.slice a1 (List.replicate k sv0).length c2) encSv us ∧ RdV w2 vb (encI .u8) bs) I I I I St.drawn (fun _ h => ⟨h.at 2 rfl, h.rd 1 rfl, hb.keep h (by simp)⟩) (Dfa U27 I Z25 I (Dq I (q_loadC I G25 I (fun _ h => h.1) I) (Dm I (Dm I (Dq I (q_rem_nn I I I (by omega) (by omega)) (Dfa U27 I Z25 I (Dq I (q_loadC I G25 I (fun _ h => h.1) I) (Dm I (Dm I (Dq I (q_rem_nn I I I (by omega) (by omega)) (Dq I (q_indexV j I U25 Z40 I (fun _ h => h.2.1) I (by rw [hj]; exact emod_nat i k) (by omega)) (Dq I (q_loadV j 0 I G40 I I (fun _ h => h.2.1) hs1 I) (Dm I (Dm I (Dq I (q_indexV i I U23 Z5 I (fun _ h => h.2.2) I I (by omega)) (Dq I (q_loadV i 0 I G5 I I (fun _ h => h.2.2) hbi I) (Dq I (q_conv_in I U5 U41 I (wrap_id (by omega) (by omega))) (Dq I (q_build ((aOp b hbw).c) I I (build43a b hbw)) (d_e I (e_buildSliceV (sz := 4) [.tmp 71] I I I I I U40 Z43 I zeroValue43 I ?_))))))))))))))))))))))
            intro b2
            refine d_held (fun _ h => ⟨h.at 3 rfl, h.rd 2 rfl, hb.keep h (by simp)⟩) (pull1 (d_e I (e_append I I I U40 U40 info43 I I I I I (fun _ h => lit_rd (h.at 1 I) Opn.enc [aOp b hbw] I I) (by simp only [byt43, List.length_cons, List.length_nil]; omega) (by simp only [List.length_cons, List.length_nil]; omega) ?_)))
            intro v2
            refine d_held (fun _ h => ⟨h.at 3 rfl, h.rd 2 rfl, hb.keep h (by simp)⟩) (d_t I (e_q I I (q_indexV j I U25 Z40 I (Hrd 2 I) I (by rw [hj]; exact emod_nat i k) (by omega)) (Pre.fact (fun _ h => rd_sv (h.rd 0 I)) ?_)))
            rintro ⟨s2, rfl⟩
            refine pull2 (d_t I (e_storeV j 0 (s2) I I Z40 I I I hs1 (by decide) I (d_nil (Kt (Cr I (Lm I (Lm I (Lm I (Lq I (q_indexV i I U23 Z5 I (fun _ h => hb.keep h (by simp [dom])) I I (by omega)) (Lq I (q_loadV i 0 I G5 I I (fun _ h => hb.keep h (by simp [dom])) hbi I) (Lq I (q_conv_in I U5 U41 I (wrap_id (by omega) (by omega))) (Lq I (q_add I I I) (Las I (l_nil (pull2 (drop0 (pull2 (pull1 (pull2 (Sv' 12 (.int .u64 (s + b)) I (by rw [wrap_id (by omega) (by omega)]) ?_))))))))))))))))))))
            exact k_meet ((ls.set j (l ++ [aOp b hbw]), us.set j s2, s + b)) ⟨by dsimp only; rw [List.length_set]; exact hul, hao.add hl (by omega) hb2 hbw⟩ (Sub.cons I (Sub.cons I (Sub.cons I (Sub.cons I (Sub.cons I (Sub.cons I (Sub.nil))))))) (fun _ h => h.perm (rows_in (by omega) (by omega)))
          · try simp only [B4] at h22
            refine c_false I (c_skip ?_)
            exact k_meet ((ls, us, s)) ⟨hul, hao.not hl (by omega)⟩ (Sub.cons I (Sub.cons I (Sub.cons I (Sub.cons I (Sub.cons I (Sub.cons I (Sub.nil))))))) (fun _ h => h.perm (rows_out hs1 hl).symm)
        · intro ls1 us1 s0 hp1
          obtain ⟨hul1, hao1⟩ := hp1
          have hll1 := hao1.len
          obtain ⟨j2, hj2⟩ : ∃ j, j = (i + 1) % k := ⟨_, rfl⟩
          have hjk2 : j2 < k := by rw [hj2]; exact mod_lt' hk1
          refine c_seq ?_
          obtain ⟨s3, hs3⟩ : ∃ q, us1[j2]? = some q := ⟨_, List.getElem?_eq_getElem (by omega)⟩
          obtain ⟨l3, hl3⟩ : ∃ q, ls1[j2]? = some q := ⟨_, List.getElem?_eq_getElem (by omega)⟩
          refine Pre.world (St w [] (rowE (Sv.v s3) 43 Opn.enc l3 :: rowE (.slice a1 (List.replicate k sv0).length c2) 40 encSv us1 :: cellsE bc 27 [.int .i64 ((8 : Nat) : Int), .int .i64 (((4 * (k + f) + 1 : Nat) : Int)), .int .i64 (f : Int), (.slice a1 (List.replicate k sv0).length c2)] :: RWs (us1.eraseIdx j2) (ls1.eraseIdx j2))) (fun _ h => h.perm (rows_out hs3 hl3)) ?_
          refine D8 [(0,O),(1,O),(2,O),(3,O),(4,O),(5,O),(6,O),(7,O),(8,O),(9,O),(10,W),(11,W),(12,W),(13,W),(14,W)] [10, 11, 12, 13, 14] [(_,O),(_,O),(_,O),(_,O),(_,O),(_,O),(_,O),(_,O),(_,O),(_,O),(_,W),(_,W),(_,W),(_,W),(_,W)] _ I I I I St.drawn Ih (Dm I (Dq I (q_rem_nn I I I (by omega) (by omega)) (Dq I (q_eql I I I) (Dm I ?_))))
          refine Pre.caseB 85 I (fun h3 => ?_) (fun h3 => ?_)
          · try simp only [B4] at h3
            refine Dfa U27 I Z25 I (Dq I (q_loadC I G25 I (Hat 2 I) I) (Dm I (Dq I (q_inc I I I (by omega)) (Dm I (Dq I (q_rem_nn I I I (by omega) (by omega)) (d_t I (e_q I I (q_indexV j2 I U25 Z40 I (Hrd 1 I) I (by rw [hj2]; exact emod_nat (i + 1) k) (by omega)) (d_t I (e_q I I (q_loadV j2 0 I G40 I I (Hrd 1 I) hs3 I) (d_t I (e_q I I (q_lenV I U40 I (Hrd 0 I)) (d_t I (e_q I I (q_lss I I I) (d_t I (e_q I I (q_pick_t I I I) (d_nil (Kt ?_)))))))))))))))))
            refine Pre.caseB 96 I (fun h20 => ?_) (fun h20 => ?_)
            · try simp only [B4] at h20
              refine c_true I (D8 [(0,O),(1,O),(2,O),(3,O),(4,O),(5,O),(6,O),(7,O),(8,O),(9,O),(10,O),(11,O),(12,O),(13,O),(14,O),(15,V),(16,V),(17,W),(18,W)] [17, 18] [(_,O),(_,O),(_,O),(_,O),(_,O),(_,O),(_,O),(_,O),(_,O),(_,O),(_,O),(_,O),(_,O),(_,O),(_,O),(_,V),(_,V),(_,W),(_,W)] (fun w2 => (cellsE bc 27 [.int .i64 ((8 : Nat) : Int), .int .i64 (((4 * (k + f) + 1 : Nat) : Int)), .int .i64 (f : Int), (.slice a1 (List.replicate k sv0).length c2)]).at w2 ∧ RdV w2 (.slice a1 (List.replicate k sv0).length c2) encSv us1 ∧ RdV w2 vb (encI .u8) bs) I I I I St.drawn (fun _ h => ⟨h.at 2 rfl, h.rd 1 rfl, hb.keep h (by simp)⟩) (Dfa U27 I Z25 I (Dq I (q_loadC I G25 I (fun _ h => h.1) I) (Dm I (Dq I (q_inc I I I (by omega)) (Dm I (Dq I (q_rem_nn I I I (by omega) (by omega)) (Dfa U27 I Z25 I (Dq I (q_loadC I G25 I (fun _ h => h.1) I) (Dm I (Dq I (q_inc I I I (by omega)) (Dm I (Dq I (q_rem_nn I I I (by omega) (by omega)) (Dq I (q_indexV j2 I U25 Z40 I (fun _ h => h.2.1) I (by rw [hj2]; exact emod_nat (i + 1) k) (by omega)) (Dq I (q_loadV j2 0 I G40 I I (fun _ h => h.2.1) hs3 I) (Dq I (q_build (gOp.c) I I (build43g)) (d_e I (e_buildSliceV (sz := 4) [.tmp 111] I I I I I U40 Z43 I zeroValue43 I ?_))))))))))))))))))
              intro b2
              refine d_held (fun _ h => ⟨h.at 3 rfl, h.rd 2 rfl, hb.keep h (by simp)⟩) (pull1 (d_e I (e_append I I I U40 U40 info43 I I I I I (fun _ h => lit_rd (h.at 1 I) Opn.enc [gOp] I I) (by simp only [byt43, List.length_cons, List.length_nil]; omega) (by simp only [List.length_cons, List.length_nil]; omega) ?_)))
              intro v2
              refine d_held (fun _ h => ⟨h.at 3 rfl, h.rd 2 rfl, hb.keep h (by simp)⟩) (d_t I (e_q I I (q_indexV j2 I U25 Z40 I (Hrd 2 I) I (by rw [hj2]; exact emod_nat (i + 1) k) (by omega)) (Pre.fact (fun _ h => rd_sv (h.rd 0 I)) ?_)))
              rintro ⟨s2, rfl⟩
              refine pull2 (d_t I (e_storeV j2 0 (s2) I I Z40 I I I hs3 (by decide) I (d_nil (k_block (Kt (Cr I (Lm I (Lq I (q_inc I I I (by omega)) (Las I (l_nil (pull2 (drop0 (pull2 (pull1 (pull2 ?_)))))))))))))))
              exact k_round ((i + 1, ls1.set j2 (l3 ++ [gOp]), us1.set j2 s2, s0)) (by dsimp only; omega) ⟨by dsimp only; omega, by dsimp only; omega, by dsimp only; rw [List.length_set]; exact hul1, hao1.get hl3 (by omega)⟩ (Sub.cons I (Sub.cons I (Sub.cons I (Sub.cons I (Sub.cons I (Sub.cons I (Sub.nil))))))) (fun _ h => h.perm (rows_in (by omega) (by omega)))
            · try simp only [B4] at h20
              refine c_false I (c_skip (k_block (Kt (Cr I (Lm I (Lq I (q_inc I I I (by omega)) (Las I (l_nil ?_))))))))
              exact k_round ((i + 1, ls1, us1, s0)) (by dsimp only; omega) ⟨by dsimp only; omega, by dsimp only; omega, hul1, hao1⟩ (Sub.cons I (Sub.cons I (Sub.cons I (Sub.cons I (Sub.cons I (Sub.cons I (Sub.nil))))))) (fun _ h => h.perm (rows_out hs3 hl3).symm)
          · try simp only [B4] at h3
            refine Dx I (Dx I (Dx I (Dx I (Dx I (Dx I (Dx I (Dx I (Dx I (Dx I (d_t I (e_q I I (q_pick_f I I I) (d_nil (Kt (c_false I (c_skip (k_block (Kt (Cr I (Lm I (Lq I (q_inc I I I (by omega)) (Las I (l_nil ?_))))))))))))))))))))))
            exact k_round ((i + 1, ls1, us1, s0)) (by dsimp only; omega) ⟨by dsimp only; omega, by dsimp only; omega, hul1, hao1⟩ (Sub.cons I (Sub.cons I (Sub.cons I (Sub.cons I (Sub.cons I (Sub.cons I (Sub.nil))))))) (fun _ h => h.perm (rows_out hs3 hl3).symm)
      · try simp only [B4] at h2
        refine c_false I (c_exit (k_then_exit (k_then_exit (k_block_exit ?_))))
        exact k_meet ((i, ls, us, s)) ⟨hul, hao, hi, fun e => by omega, fun e => by omega⟩ (Sub.cons I (Sub.cons I (Sub.cons I (Sub.cons I (Sub.cons I (Sub.nil)))))) (fun _ h => h)
    · try simp only [B4] at h1
      refine Lx I (Lx I (Lq I (q_pick_f I I I) (Nk (c_false I (c_exit (k_then_exit (k_then_exit (k_block_exit ?_))))))))
      exact k_meet ((i, ls, us, s)) ⟨hul, hao, hi, fun e => by omega, fun e => by omega⟩ (Sub.cons I (Sub.cons I (Sub.cons I (Sub.cons I (Sub.cons I (Sub.nil)))))) (fun _ h => h)
  · intro i ls us s hp0
    obtain ⟨hul, hao, hi, hb0, hb1⟩ := hp0
    refine Cs I (Lq I (q_loadCAgg _ I isAgg27 sizeOf27 I (Hat 1 I) I I) ?_)
    have hll := hao.len
    have hsb := hao.bd
    have hs64 : s < 18446744073709551616 := by omega
    have h8 := hao.ok
    refine Pre.world (St w [] ((rowE (.slice a1 (List.replicate k sv0).length c2) 40 encSv us :: cellsE bc 27 [.int .i64 ((8 : Nat) : Int), .int .i64 (((4 * (k + f) + 1 : Nat) : Int)), .int .i64 (f : Int), (.slice a1 (List.replicate k sv0).length c2)] :: RWs us ls) ++ [])) (fun _ h => by rw [List.append_nil]; exact h) ?_
    refine l_e I (e_callH (rowE (.slice a1 (List.replicate k sv0).length c2) 40 encSv us :: cellsE bc 27 [.int .i64 ((8 : Nat) : Int), .int .i64 (((4 * (k + f) + 1 : Nat) : Int)), .int .i64 (f : Int), (.slice a1 (List.replicate k sv0).length c2)] :: RWs us ls) (HA := []) (hhnew (vs := us) (ls := ls) (nb := 8) (nf := 4 * (k + f) + 1) (fl := f) (by decide) (by decide) (by omega) (by omega) (by omega) (by omega) (by omega) (fun l hl => Nat.le_trans (h8 l hl).1 (by decide)) (fun l hl o ho => by have := ((h8 l hl).2 o ho).1; omega)) I I I call18 I (fun _ h => rro_rws h (h.rd 0 I) (by omega) (fun e he => List.mem_append_left _ (List.mem_cons_of_mem _ (List.mem_cons_of_mem _ he)))) ?_)
    intro z hz
    refine Pre.world (St w [] ((rowE (.slice a1 (List.replicate k sv0).length c2) 40 encSv us :: cellsE bc 27 [.int .i64 ((8 : Nat) : Int), .int .i64 (((4 * (k + f) + 1 : Nat) : Int)), .int .i64 (f : Int), (.slice a1 (List.replicate k sv0).length c2)] :: RWs us ls) ++ HC.H z (hmS 8 (4 * (k + f) + 1) f ls))) Ih ?_
    refine Lm I (Lq I (q_extract I I I) (Lq I (q_extract I I I) (Las I (Ak I (c_seq (Cs I (Lm I (Lq I (q_neq I I I) (Lm I (Sb 122 false I (I) (Lm I (Lq I (q_eqp I underlying24 I I) (Lq I (q_pick_f I I I) (Lm I (Sb 126 false I (I) (Lm I (l_e I (e_callH (rowE (.slice a1 (List.replicate k sv0).length c2) 40 encSv us :: cellsE bc 27 [.int .i64 ((8 : Nat) : Int), .int .i64 (((4 * (k + f) + 1 : Nat) : Int)), .int .i64 (f : Int), (.slice a1 (List.replicate k sv0).length c2)] :: RWs us ls) (zhall hz) I I I call19 I Tt ?_))))))))))))))))))
    intro _ _
    refine Pre.world (St w [] ((rowE (.slice a1 (List.replicate k sv0).length c2) 40 encSv us :: cellsE bc 27 [.int .i64 ((8 : Nat) : Int), .int .i64 (((4 * (k + f) + 1 : Nat) : Int)), .int .i64 (f : Int), (.slice a1 (List.replicate k sv0).length c2)] :: RWs us ls) ++ HC.H z (hmS 8 (4 * (k + f) + 1) f ls))) Ih ?_
    refine Lq I (q_eqp I underlying47 I I) (Lq I (q_pick_f I I I) (Nk (Sb 130 false I (I) (c_false I (c_skip (Ks (Cs I (Ak I (c_block ?_)))))))))
    refine c_loop3 (fun (q : Nat) (z : HC) (m : HM) => [(2, vb), (3, vp), (11, ptV bc), (12, .int .u64 s), (14, ptV z.bH), (16, .int .i64 (q : Int))]) (fun (q : Nat) (z : HC) (m : HM) => St w [] ((rowE (.slice a1 (List.replicate k sv0).length c2) 40 encSv us :: cellsE bc 27 [.int .i64 ((8 : Nat) : Int), .int .i64 (((4 * (k + f) + 1 : Nat) : Int)), .int .i64 (f : Int), (.slice a1 (List.replicate k sv0).length c2)] :: RWs us ls) ++ HC.H z m)) (fun (q : Nat) (z : HC) (m : HM) => AdI ls s m q ∧ HOk z m (2 * q)) (fun (q : Nat) (z : HC) (m : HM) => 12000 - q) (0) (z) ((hmS 8 (4 * (k + f) + 1) f ls)) ⟨AdI.start hao hk4 (by omega) (by omega), hz⟩ (Sn I (Sn I (Sn I (Sn I (Sn I (Sn I (Sub.nil))))))) Ih ?_
    intro q z m hpz
    refine c_seq (c_seq ?_)
    obtain ⟨hA, hk2⟩ := hpz
    have hmu := hA.mu'
    refine Cr I (Lm I (Lq I (q_lss I I I) (Lm I (Sb 133 true I (decide_eq_true (by omega)) (Lm I (l_e I (e_callH (rowE (.slice a1 (List.replicate k sv0).length c2) 40 encSv us :: cellsE bc 27 [.int .i64 ((8 : Nat) : Int), .int .i64 (((4 * (k + f) + 1 : Nat) : Int)), .int .i64 (f : Int), (.slice a1 (List.replicate k sv0).length c2)] :: RWs us ls) (zended hk2) I I I call12 I Tt ?_)))))))
    intro _ _
    refine Pre.world (St w [] ((rowE (.slice a1 (List.replicate k sv0).length c2) 40 encSv us :: cellsE bc 27 [.int .i64 ((8 : Nat) : Int), .int .i64 (((4 * (k + f) + 1 : Nat) : Int)), .int .i64 (f : Int), (.slice a1 (List.replicate k sv0).length c2)] :: RWs us ls) ++ HC.H z m)) Ih ?_
    refine Lq I (q_not I I) (Lq I (q_pick_t I I I) (Nk ?_))
    refine Pre.caseB 137 I (fun hend => ?_) (fun hend => ?_)
    · try simp only [B4] at hend
      refine c_true I (c_skip (Ks (c_block (Cr I (Lm I (Lm I (Lm I (Lm I (l_e I (e_callH (rowE (.slice a1 (List.replicate k sv0).length c2) 40 encSv us :: cellsE bc 27 [.int .i64 ((8 : Nat) : Int), .int .i64 (((4 * (k + f) + 1 : Nat) : Int)), .int .i64 (f : Int), (.slice a1 (List.replicate k sv0).length c2)] :: RWs us ls) (zfair hk2 picks hpl q (by omega)) I I I call14 I (fun _ h => hp.keep h (by simp)) ?_))))))))))
      intro pk _
      refine Pre.world (St w [] ((rowE (.slice a1 (List.replicate k sv0).length c2) 40 encSv us :: cellsE bc 27 [.int .i64 ((8 : Nat) : Int), .int .i64 (((4 * (k + f) + 1 : Nat) : Int)), .int .i64 (f : Int), (.slice a1 (List.replicate k sv0).length c2)] :: RWs us ls) ++ HC.H z m)) Ih ?_
      refine l_e I (e_callH (rowE (.slice a1 (List.replicate k sv0).length c2) 40 encSv us :: cellsE bc 27 [.int .i64 ((8 : Nat) : Int), .int .i64 (((4 * (k + f) + 1 : Nat) : Int)), .int .i64 (f : Int), (.slice a1 (List.replicate k sv0).length c2)] :: RWs us ls) (hstep hk2 (by omega) (by have := hA.pk; omega) hA.inv.preH pk) I I I call13 I Tt ?_)
      rintro y ⟨hy1, hy2⟩
      refine Pre.world (St w [] ((rowE (.slice a1 (List.replicate k sv0).length c2) 40 encSv us :: cellsE bc 27 [.int .i64 ((8 : Nat) : Int), .int .i64 (((4 * (k + f) + 1 : Nat) : Int)), .int .i64 (f : Int), (.slice a1 (List.replicate k sv0).length c2)] :: RWs us ls) ++ HC.H y (stepH m pk))) Ih ?_
      refine l_nil (k_block (Kt (Cr I (Lm I (Lq I (q_inc I I I (by omega)) (Las I (l_nil (Sv' 14 (ptV y.bH) I (by rw [hy1]) ?_))))))))
      exact k_round ((q + 1, y, stepH m pk)) (by dsimp only; omega) ⟨hA.step hs64 hend pk, hy2⟩ (Sub.cons I (Sub.cons I (Sub.cons I (Sub.cons I (Sub.cons I (Sub.cons I (Sub.nil))))))) (fun _ h => h)
    · try simp only [B4] at hend
      have hAd := hA.ad
      have hev := hk2.ev
      obtain ⟨hsum, hcnt⟩ := hAd.fin hend
      have hans := hAd.answered hend
      refine c_false I (c_exit (k_then_exit (k_then_exit (k_block_exit (Ks (D8 [(0,O),(2,O),(3,O),(1,V),(4,W),(5,W)] [4, 5] [(_,O),(_,O),(_,O),(_,V),(_,W),(_,W)] (fun w2 => (cellsE bc 27 [.int .i64 ((8 : Nat) : Int), .int .i64 (((4 * (k + f) + 1 : Nat) : Int)), .int .i64 (f : Int), (.slice a1 (List.replicate k sv0).length c2)]).at w2) I I I I St.drawn (Hat 1 I) (Dm I (Dfa U27 I Z25 I (Dq I (q_loadC I G25 I Ih I) (d_e I (e_callH (rowE (.slice a1 (List.replicate k sv0).length c2) 40 encSv us :: cellsE bc 27 [.int .i64 ((8 : Nat) : Int), .int .i64 (((4 * (k + f) + 1 : Nat) : Int)), .int .i64 (f : Int), (.slice a1 (List.replicate k sv0).length c2)] :: RWs us ls) (zevents hk2) I I I call15 I Tt ?_)))))))))))
      intro ve _
      refine Pre.world (St w [] ((rowE ve 71 Evt.enc m.ev :: (rowE (.slice a1 (List.replicate k sv0).length c2) 40 encSv us :: cellsE bc 27 [.int .i64 ((8 : Nat) : Int), .int .i64 (((4 * (k + f) + 1 : Nat) : Int)), .int .i64 (f : Int), (.slice a1 (List.replicate k sv0).length c2)] :: RWs us ls)) ++ HC.H z m)) (fun _ h => h.perm List.perm_middle) ?_
      refine d_held (Hat 2 I) (d_t I (e_call_01 (rcalls_ex m.ev us ls (by omega) (by omega) (fun o ho => Nat.le_trans (h8 o ho).1 (by decide)) hAd.ev) I I I call29 I (fun _ h => ⟨h.rd 0 rfl, rro_rws h (h.rd 1 I) (by omega) (fun e he => List.mem_append_left _ (List.mem_cons_of_mem _ (List.mem_cons_of_mem _ (List.mem_cons_of_mem _ he))))⟩) ?_))
      intro vq _
      obtain ⟨vc, b0⟩ := vq; dsimp only; obtain ⟨C, hC⟩ : ∃ C, C = (if b0 = true then callsOf ls m.ev m.ev.length else []) := ⟨_, rfl⟩; rw [← hC]; have hord := calls_ord hans hAd.mo hC; have hCl := calls_ol hC
      refine d_t I (e_q I I (q_assign I I) (d_nil (Ks (Cs I (Ak I (c_block ?_))))))
      refine c_loop1 (fun (i : Nat) => [(2, vb), (12, .int .u64 s), (14, ptV z.bH), (17, vc), (18, .int .i64 (i : Int))]) (fun (i : Nat) => St w [] ((rowE vc 60 Ca.enc C :: rowE ve 71 Evt.enc m.ev :: rowE (.slice a1 (List.replicate k sv0).length c2) 40 encSv us :: cellsE bc 27 [.int .i64 ((8 : Nat) : Int), .int .i64 (((4 * (k + f) + 1 : Nat) : Int)), .int .i64 (f : Int), (.slice a1 (List.replicate k sv0).length c2)] :: RWs us ls) ++ HC.H z m)) (fun (i : Nat) => i ≤ C.length) (fun (i : Nat) => C.length - i) (0) (Nat.zero_le _) (Sn I (Sn I (Sn I (Sn I (Sn I (Sub.nil)))))) Ih ?_
      intro i hic
      refine c_seq (Cs I (Lm I (Lm I (Lq I (q_lenV I U36 I (Hrd 0 I)) (Lq I (q_lss I I I) (Nk ?_))))))
      refine Pre.caseB 154 I (fun hic2 => ?_) (fun hic2 => ?_)
      · try simp only [B4] at hic2
        obtain ⟨xa, hxa⟩ : ∃ x, C[i]? = some x := ⟨_, List.getElem?_eq_getElem (by omega)⟩
        refine c_true I (c_skip (Ks (c_block (Cs I (Ak I (c_block ?_))))))
        refine c_loop1 (fun (j : Nat) => [(2, vb), (12, .int .u64 s), (14, ptV z.bH), (17, vc), (18, .int .i64 (i : Int)), (19, .int .i64 (j : Int))]) (fun (j : Nat) => St w [] ((rowE vc 60 Ca.enc C :: rowE ve 71 Evt.enc m.ev :: rowE (.slice a1 (List.replicate k sv0).length c2) 40 encSv us :: cellsE bc 27 [.int .i64 ((8 : Nat) : Int), .int .i64 (((4 * (k + f) + 1 : Nat) : Int)), .int .i64 (f : Int), (.slice a1 (List.replicate k sv0).length c2)] :: RWs us ls) ++ HC.H z m)) (fun (j : Nat) => j ≤ C.length) (fun (j : Nat) => C.length - j) (0) (Nat.zero_le _) (Sn I (Sn I (Sn I (Sn I (Sn I (Sn I (Sub.nil))))))) Ih ?_
        intro j hjc
        refine c_seq (Cs I (Lm I (Lm I (Lq I (q_lenV I U36 I (Hrd 0 I)) (Lq I (q_lss I I I) (Nk ?_))))))
        refine Pre.caseB 160 I (fun hjc2 => ?_) (fun hjc2 => ?_)
        · try simp only [B4] at hjc2
          obtain ⟨xb, hxb⟩ : ∃ x, C[j]? = some x := ⟨_, List.getElem?_eq_getElem (by omega)⟩
          refine c_true I (c_skip (Ks (c_block (c_seq (D8 [(0,O),(1,O),(2,O),(3,O),(4,O),(5,O),(6,O),(7,O),(8,O),(9,O),(10,O),(11,O),(12,O),(13,O),(14,O),(15,O),(16,O),(17,O),(18,O),(19,O),(20,O),(21,O),(22,O),(23,O),(24,O),(25,V),(26,O),(27,O),(28,O),(29,O),(30,O),(31,O),(32,O),(33,O),(35,O),(36,O),(37,O),(38,O),(39,O),(40,O),(34,V),(41,V),(42,O),(43,O)] [] [(_,O),(_,O),(_,O),(_,O),(_,O),(_,O),(_,O),(_,O),(_,O),(_,O),(_,O),(_,O),(_,O),(_,O),(_,O),(_,O),(_,O),(_,O),(_,O),(_,O),(_,O),(_,O),(_,O),(_,O),(_,O),(_,V),(_,O),(_,O),(_,O),(_,O),(_,O),(_,O),(_,O),(_,O),(_,O),(_,O),(_,O),(_,O),(_,O),(_,O),(_,V),(_,V),(_,O),(_,O)] _ I I I I St.drawn Ih (Dm I (Dm I (Dq I (q_indexV i I U36 Z60 I (Hrd 0 I) I I (by omega)) (Dfa U60 I Z43 I (Dfa U43 I Z3 I (Dq I (q_loadV i 2 I G3 I I (Hrd 0 I) hxa I) (Dq I (q_eql I I I) (Dm I ?_)))))))))))))
          refine Pre.caseB 170 I (fun hg1 => ?_) (fun hg1 => ?_)
          · try simp only [B4] at hg1
            refine Dm I (Dm I (Dq I (q_indexV j I U36 Z60 I (Hrd 0 I) I I (by omega)) (Dfa U60 I Z43 I (Dfa U43 I Z3 I (Dq I (q_loadV j 2 I G3 I I (Hrd 0 I) hxb I) (Dq I (q_eql I I I) (Dq I (q_pick_t I I I) (Dm I ?_))))))))
            refine Pre.caseB 179 I (fun hg2 => ?_) (fun hg2 => ?_)
            · try simp only [B4] at hg2
              refine Dm I (Dm I (Dq I (q_indexV i I U36 Z60 I (Hrd 0 I) I I (by omega)) (Dq I (q_loadVAgg i I isAgg60 Z60 I I (Hrd 0 I) hxa) (Dm I (Dm I (Dq I (q_indexV j I U36 Z60 I (Hrd 0 I) I I (by omega)) (Dq I (q_loadVAgg j I isAgg60 Z60 I I (Hrd 0 I) hxb) (d_e I (e_call_00 (rbef_spec xa xb) I I I call30 I Tt ?_)))))))))
              intro _ _
              refine d_held Ih (Dq I (q_pick_t I I I) (Dm I ?_))
              refine Pre.caseB 190 I (fun hbf => ?_) (fun hbf => ?_)
              · refine Dm I (Dm I (Dq I (q_indexV i I U36 Z60 I (Hrd 0 I) I I (by omega)) (Dfa U60 I Z58 I (Dfa U58 I Z56 I (Dq I (q_loadVPartE (xa.a.v.c) i 10 I G56 Z56 I I (Hrd 0 I) hxa (by decide) (Ca.v_part _)) (Dm I (Dm I (Dq I (q_indexV j I U36 Z60 I (Hrd 0 I) I I (by omega)) (Dfa U60 I Z58 I (Dfa U58 I Z56 I (Dq I (q_loadVPartE (xb.a.v.c) j 10 I G56 Z56 I I (Hrd 0 I) hxb (by decide) (Ca.v_part _)) (d_e I (e_call_00 (number_spec xa.a.v) I I I call31 I Tt ?_)))))))))))))
                intro _ _
                refine d_held Ih (d_e I (e_call_00 (number_spec xb.a.v) I I I call31 I Tt ?_))
                intro _ _
                refine d_held Ih (Dq I (q_gtr I I I) (Dq I (q_pick_t I I I) (d_nil (Kt ?_))))
                have hle := hord xa (List.mem_of_getElem? hxa) xb (List.mem_of_getElem? hxb) hg1 hg2 hbf
                refine Sb 206 false I (by first | exact decide_eq_false (by omega) | (simp; omega)) (c_false I (c_skip (k_block (Kt (Cr I (Lm I (Lq I (q_inc I I I (by omega)) (Las I (l_nil ?_)))))))))
                exact k_round (j + 1) (by omega) (by omega) (Sub.cons I (Sub.cons I (Sub.cons I (Sub.cons I (Sub.cons I (Sub.cons I (Sub.nil))))))) (fun _ h => h)
              · refine Dx I (Dx I (Dx I (Dx I (Dx I (Dx I (Dx I (Dx I (Dx I (Dx I (Dx I (Dx I (Dx I (Dx I (Dx I (Dq I (q_pick_f I I I) (d_nil (Kt (c_false I (c_skip (k_block (Kt (Cr I (Lm I ?_)))))))))))))))))))))))
                refine Lq I (q_inc I I I (by omega)) (Las I (l_nil ?_))
                exact k_round (j + 1) (by omega) (by omega) (Sub.cons I (Sub.cons I (Sub.cons I (Sub.cons I (Sub.cons I (Sub.cons I (Sub.nil))))))) (fun _ h => h)
            · try simp only [B4] at hg2
              refine Dx I (Dx I (Dx I (Dx I (Dx I (Dx I (Dx I (Dx I (Dx I (Dq I (q_pick_f I I I) (Dm I (Dx I (Dx I (Dx I (Dx I (Dx I (Dx I (Dx I (Dx I (Dx I (Dx I (Dx I (Dx I (Dx I ?_)))))))))))))))))))))))
              refine Dx I (Dx I (Dq I (q_pick_f I I I) (d_nil (Kt (c_false I (c_skip (k_block (Kt (Cr I (Lm I (Lq I (q_inc I I I (by omega)) (Las I (l_nil ?_)))))))))))))
              exact k_round (j + 1) (by omega) (by omega) (Sub.cons I (Sub.cons I (Sub.cons I (Sub.cons I (Sub.cons I (Sub.cons I (Sub.nil))))))) (fun _ h => h)
          · try simp only [B4] at hg1
            refine Dx I (Dx I (Dx I (Dx I (Dx I (Dx I (Dx I (Dq I (q_pick_f I I I) (Dm I (Dx I (Dx I (Dx I (Dx I (Dx I (Dx I (Dx I (Dx I (Dx I (Dq I (q_pick_f I I I) (Dm I (Dx I (Dx I (Dx I (Dx I ?_)))))))))))))))))))))))
            refine Dx I (Dx I (Dx I (Dx I (Dx I (Dx I (Dx I (Dx I (Dx I (Dx I (Dx I (Dq I (q_pick_f I I I) (d_nil (Kt (c_false I (c_skip (k_block (Kt (Cr I (Lm I (Lq I (q_inc I I I (by omega)) (Las I (l_nil ?_))))))))))))))))))))))
            exact k_round (j + 1) (by omega) (by omega) (Sub.cons I (Sub.cons I (Sub.cons I (Sub.cons I (Sub.cons I (Sub.cons I (Sub.nil))))))) (fun _ h => h)
        · try simp only [B4] at hjc2
          refine c_false I (c_exit (k_then_exit (k_then_exit (k_block_exit (k_block (Kt (Cr I (Lm I (Lq I (q_inc I I I (by omega)) (Las I (l_nil ?_)))))))))))
          exact k_round (i + 1) (by omega) (by omega) (Sub.cons I (Sub.cons I (Sub.cons I (Sub.cons I (Sub.cons I (Sub.nil)))))) (fun _ h => h)
      · try simp only [B4] at hic2
        refine c_false I (c_exit (k_then_exit (k_then_exit (k_block_exit (Kt (Cs I (Lm I (l_e I (e_callH (rowE vc 60 Ca.enc C :: rowE ve 71 Evt.enc m.ev :: rowE (.slice a1 (List.replicate k sv0).length c2) 40 encSv us :: cellsE bc 27 [.int .i64 ((8 : Nat) : Int), .int .i64 (((4 * (k + f) + 1 : Nat) : Int)), .int .i64 (f : Int), (.slice a1 (List.replicate k sv0).length c2)] :: RWs us ls) (zhall hk2) I I I call19 I Tt ?_)))))))))
        intro _ _
        refine Pre.world (St w [] ((rowE vc 60 Ca.enc C :: rowE ve 71 Evt.enc m.ev :: rowE (.slice a1 (List.replicate k sv0).length c2) 40 encSv us :: cellsE bc 27 [.int .i64 ((8 : Nat) : Int), .int .i64 (((4 * (k + f) + 1 : Nat) : Int)), .int .i64 (f : Int), (.slice a1 (List.replicate k sv0).length c2)] :: RWs us ls) ++ HC.H z m)) Ih ?_
        refine l_e I (e_callH (rowE vc 60 Ca.enc C :: rowE ve 71 Evt.enc m.ev :: rowE (.slice a1 (List.replicate k sv0).length c2) 40 encSv us :: cellsE bc 27 [.int .i64 ((8 : Nat) : Int), .int .i64 (((4 * (k + f) + 1 : Nat) : Int)), .int .i64 (f : Int), (.slice a1 (List.replicate k sv0).length c2)] :: RWs us ls) (zmap hk2) I I I call20 I Tt ?_)
        intro vm _
        refine Pre.world (St w [] ((rowE vm 79 En.enc (mapL m.L) :: (rowE vc 60 Ca.enc C :: rowE ve 71 Evt.enc m.ev :: rowE (.slice a1 (List.replicate k sv0).length c2) 40 encSv us :: cellsE bc 27 [.int .i64 ((8 : Nat) : Int), .int .i64 (((4 * (k + f) + 1 : Nat) : Int)), .int .i64 (f : Int), (.slice a1 (List.replicate k sv0).length c2)] :: RWs us ls)) ++ HC.H z m)) (fun _ h => h.perm List.perm_middle) ?_
        refine Ak I (c_seq (Cs I (Lm I (Lq I (q_lenV I U23 I (fun _ h => hb.keep h (by simp [dom]))) (Lq I (q_eql I I I) (Nk ?_))))))
        refine Pre.caseB 212 I (fun hbn => ?_) (fun hbn => ?_)
        · try simp only [B4] at hbn
          have hmap : mapL m.L = [] := by
                rcases hAd.su with ⟨e, _⟩ | ⟨v, _, h, _⟩
                · exact e
                · rw [hcnt, hao.z (hb0 (by omega)), rep_N] at h; omega
          refine c_true I (Cs I (Lm I (Lq I (q_lenV I U49 I (Hrd 0 I)) (Lq I (q_eql I I I) (Lm I (Sb 216 true I (decide_eq_true (by rw [hmap]; rfl)) (l_e I (e_call_00 (awake_spec) I I I call17 I Tt ?_))))))))
          intro _ _
          refine Lq I (q_pick_t I I I) (Ak I (c_ret (k_then_ret (r_one I I ?_))))
          exact fun _ h => ⟨(), rfl, trivial, h.nothing⟩
        · try simp only [B4] at hbn
          obtain ⟨v, hmv, hvn⟩ : ∃ v, mapL m.L = [⟨kOf gOp, v⟩] ∧ vnum v = sumN m.cs := by
              rcases hAd.su with ⟨_, e, _⟩ | ⟨v, e, _, g⟩
              · rw [hcnt] at e; have := hao.ad (hb1 (by omega)); omega
              · exact ⟨v, e, g⟩
          have hml : (mapL m.L).length = 1 := by rw [hmv]; rfl
          refine c_false I (c_skip (Kt (Cs I (Lm I (l_e I (e_callH (rowE vm 79 En.enc (mapL m.L) :: rowE vc 60 Ca.enc C :: rowE ve 71 Evt.enc m.ev :: rowE (.slice a1 (List.replicate k sv0).length c2) 40 encSv us :: cellsE bc 27 [.int .i64 ((8 : Nat) : Int), .int .i64 (((4 * (k + f) + 1 : Nat) : Int)), .int .i64 (f : Int), (.slice a1 (List.replicate k sv0).length c2)] :: RWs us ls) (zended hk2) I I I call12 I Tt ?_))))))
          intro _ _
          refine Pre.world (St w [] ((rowE vm 79 En.enc (mapL m.L) :: rowE vc 60 Ca.enc C :: rowE ve 71 Evt.enc m.ev :: rowE (.slice a1 (List.replicate k sv0).length c2) 40 encSv us :: cellsE bc 27 [.int .i64 ((8 : Nat) : Int), .int .i64 (((4 * (k + f) + 1 : Nat) : Int)), .int .i64 (f : Int), (.slice a1 (List.replicate k sv0).length c2)] :: RWs us ls) ++ HC.H z m)) Ih ?_
          refine Sv' 220 (.bool true) I (by rw [hend]) (Lm I (Lm I (Lq I (q_lenV I U49 I (Hrd 0 I)) (Lq I (q_eql I I I) (Lq I (q_pick_t I I I) (Lm I (Sb 226 true I (decide_eq_true (by omega)) (Lm I (Lq I (q_indexV 0 I U49 Z79 I (Hrd 0 I) I I (by omega)) (Lfa U79 I Z56 I (Lq I (q_loadVPartE ((⟨kOf gOp, v⟩ : En).val.c) 0 9 I G56 Z56 I I (Hrd 0 I) (by rw [hmv]; rfl) (by decide) (En.val_part _)) (l_e I (e_call_00 (number_spec v) I I I call31 I Tt ?_)))))))))))))
          intro _ _
          refine Lm I (Lq I (q_eql I I I) (Lq I (q_pick_t I I I) (Lm I (Sb 235 true I (decide_eq_true (by rw [hvn, hsum, ← hao.su])) (l_e I (e_call_00 (awake_spec) I I I call17 I Tt ?_))))))
          intro _ _
          refine Lq I (q_pick_t I I I) (Ak I (c_ret (r_one I I ?_)))
          exact fun _ h => ⟨(), rfl, trivial, h.nothing⟩
theorem topAdds_walk (w : World) (a0 : Int) (w0 : (Lit.int .i64 a0).wf = true) (a1 : Int) (w1 : (Lit.int .i64 a1).wf = true) (A2 : Option Addr) (c2 : Nat) (z2 : List Int) (rd2 : Rd w w.heap.size A2 (z2.map (.int .u8))) (l2 : z2.length ≤ c2) (m2 : c2 ≤ maxLen) (w2 : ∀ z ∈ z2, (Lit.int .u8 z).wf = true) (A3 : Option Addr) (c3 : Nat) (z3 : List Int) (rd3 : Rd w w.heap.size A3 (z3.map (.int .u8))) (l3 : z3.length ≤ c3) (m3 : c3 ≤ maxLen) (w3 : ∀ z ∈ z3, (Lit.int .u8 z).wf = true) :
    Calls Tryz.prog 6 #[.int .i64 a0, .int .i64 a1, .slice A2 z2.length c2, .slice A3 z3.length c3] w fun e w' => e = .returned (.bool true) ∧ Below w.heap.size w w' := by
  rw [← flat_u8] at rd2 rd3
  exact con_walk (adds_spec a0 a1 z2 z3 w2 (Nat.le_trans l2 (Nat.le_trans m2 (Nat.le_refl _))) (Nat.le_trans l3 (Nat.le_trans m3 (Nat.le_refl _)))) ⟨rdv_of rd2 l2, rdv_of rd3 l3⟩
end Go.Proofs.YtloldofjddbjoaaGreat
