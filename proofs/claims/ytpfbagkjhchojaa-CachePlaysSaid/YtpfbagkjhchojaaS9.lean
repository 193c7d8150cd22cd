/- From what a row says of its arguments to what a walk asks. -/
import Derived.Test.YtpfbagkjhchojaaS8
import Derived.Test.YtpfbagkjhchojaaOpen
set_option linter.unusedVariables false
namespace Go.Sep
open Go.Proofs.Ytpfbagkjhchojaa
theorem rdv_of {α : Type} {w : World} {B : Nat} {A : Option Addr} {E : Enc α} {l : List α} {c : Nat} (h : Rd w B A (E.flat l)) (hc : l.length ≤ c) : RdV w (.slice A l.length c) E l := by
  refine ⟨A, c, rfl, hc, ?_⟩
  by_cases h0 : E.flat l = []
  · left
    have h1 := E.flat_len l
    rw [h0, List.length_nil] at h1
    have := E.pos
    rcases Nat.mul_eq_zero.1 h1.symm with h2 | h2
    · exact List.eq_nil_of_length_eq_zero h2
    · omega
  · right
    obtain ⟨b, off, e, _, hk⟩ := h h0
    exact ⟨b, off, e, hk⟩
/-- Chunks, each of which is a datum, are a list of data. -/
theorem flat_of {α : Type} (E : Enc α) {ks : List Sc} {W : α → Prop} (hk : ks.length = E.sz) (one : ∀ cs, Kinds ks cs → ∃ a, cs = E.f a ∧ W a) : ∀ (n : Nat) (xs : List Value), xs.length = n * ks.length → (∀ i, i < n → Kinds ks ((xs.drop (i * ks.length)).take ks.length)) → ∃ l : List α, xs = E.flat l ∧ l.length = n ∧ ∀ a ∈ l, W a
  | 0, xs, h, _ => ⟨[], List.eq_nil_of_length_eq_zero (by simpa using h), rfl, by simp⟩
  | n + 1, xs, h, hc => by
    obtain ⟨a, ha, hw⟩ := one _ (hc 0 (by omega))
    rw [Nat.zero_mul, List.drop_zero] at ha
    obtain ⟨l, hl, hn, hW⟩ := flat_of E hk one n (xs.drop ks.length) (by rw [List.length_drop, h, Nat.add_mul]; omega) (fun i hi => by
      have := hc (i + 1) (by omega)
      rw [List.drop_drop]
      rwa [show ks.length + i * ks.length = (i + 1) * ks.length from by rw [Nat.add_mul]; omega])
    refine ⟨a :: l, ?_, by simp [hn], fun b hb => by rcases List.mem_cons.1 hb with rfl | hb; exact hw; exact hW b hb⟩
    rw [E.flat_cons, ← hl, ← ha, List.take_append_drop]
theorem flat_one' {α : Type} (E : Enc α) (f : α → Value) (hE : ∀ a, E.f a = [f a]) (l : List α) : E.flat l = l.map f := by
  induction l with
  | nil => rfl
  | cons a l ih => rw [E.flat_cons, hE, ih]; rfl
theorem wf_u8 {a : Int} (h : (Lit.int .u8 a).wf = true) : 0 ≤ a ∧ a ≤ 255 := by
  simp only [Lit.wf, Bool.and_eq_true, decide_eq_true_eq] at h
  exact ⟨h.1, h.2⟩
theorem wf_u16 {a : Int} (h : (Lit.int .u16 a).wf = true) : 0 ≤ a ∧ a ≤ 65535 := by
  simp only [Lit.wf, Bool.and_eq_true, decide_eq_true_eq] at h
  exact ⟨h.1, h.2⟩
theorem wf_i64 {a : Int} (h : (Lit.int .i64 a).wf = true) : -9223372036854775808 ≤ a ∧ a ≤ 9223372036854775807 := by
  simp only [Lit.wf, Bool.and_eq_true, decide_eq_true_eq] at h
  exact ⟨h.1, h.2⟩
theorem wf_u64 {a : Int} (h : (Lit.int .u64 a).wf = true) : 0 ≤ a ∧ a ≤ 18446744073709551615 := by
  simp only [Lit.wf, Bool.and_eq_true, decide_eq_true_eq] at h
  exact ⟨h.1, h.2⟩
theorem u8_nat {a : Int} (h : (Lit.int .u8 a).wf = true) : ∃ k : Nat, a = (k : Int) ∧ k ≤ 255 := ⟨a.toNat, by have := wf_u8 h; omega, by have := wf_u8 h; omega⟩
theorem u16_nat {a : Int} (h : (Lit.int .u16 a).wf = true) : ∃ k : Nat, a = (k : Int) ∧ k ≤ 65535 := ⟨a.toNat, by have := wf_u16 h; omega, by have := wf_u16 h; omega⟩
/-- Back to the elder way's words. -/
theorem rd_of {α : Type} {w : World} {A : Option Addr} {E : Enc α} {l : List α} {n c : Nat} (h : RdV w (.slice A n c) E l) : Rd w w.heap.size A (E.flat l) := fun hne => by
  have hlt := h.lt (fun e => hne (by subst e; rfl))
  obtain ⟨a, c', e, _, h⟩ := h
  cases e
  rcases h with rfl | ⟨b, off, rfl, h⟩
  · exact absurd rfl hne
  · exact ⟨b, off, rfl, hlt, h⟩
theorem st_of_own {α : Type} {w w' : World} {v : Value} {e : TypeId} {E : Enc α} {l : List α} (h : w'.ownsRow w.heap.size e E.sz v l.length (E.flat l)) (hb : Go.RowKit.Below w.heap.size w w') : St w [] [rowE v e E l] w' := by
  have hk : Keep w [] w' := ⟨hb.os, hb.tape, hb.output, hb.size, fun b hb' _ => hb.block b hb'⟩
  have h0 : St w [] [] w' := ⟨HP.nil w', fun b hb => (by cases hb), hk⟩
  obtain ⟨hl, h | ⟨g, cap, cur, rfl, hg, hh, hn, hm, hs, ht⟩⟩ := h
  · obtain ⟨rfl, hn⟩ := h
    have : l = [] := List.eq_nil_of_length_eq_zero hn
    subst this
    exact h0.row0 e E none
  · by_cases hc : cap = 0
    · subst hc
      have : l = [] := List.eq_nil_of_length_eq_zero (by omega)
      subst this
      exact h0.row0 e E _
    · have hlt : g < w'.heap.size := (Array.getElem?_eq_some_iff.1 hh).1
      have hob : ownB (.slice (some ⟨g, 0, none⟩) l.length cap) = some g := by simp [ownB, hc]
      have hcur : cur = ([] ++ E.flat l ++ cur.toList.drop (l.length * E.sz)).toArray := by
        apply Array.toList_inj.1
        rw [List.nil_append, ← ht, List.take_append_drop]
      refine ⟨⟨fun x hx => ?_, ?_, fun b hb' => ?_⟩, fun b hb' => ?_, hk⟩
      · simp only [List.mem_singleton] at hx
        subst hx
        simp only [Ent.at, rowE, hob, Option.bind_some]
        refine .inr ⟨g, cap, [], cur.toList.drop (l.length * E.sz), rfl, by omega, ?_, hn, ?_⟩
        · rw [← hcur]; exact hh
        · rw [List.length_drop, Array.length_toList, hs, Nat.sub_mul]
      · simp [dom, rowE, hob]
      · simp [dom, rowE, hob] at hb'; subst hb'; exact hlt
      · simp [dom, rowE, hob] at hb'; subst hb'; exact .inr hg
theorem rd_empty {α : Type} {w : World} {a : Option Addr} {c : Nat} (E : Enc α) : RdV w (.slice a 0 c) E ([] : List α) := ⟨a, c, rfl, Nat.zero_le _, .inl rfl⟩
/-- An entry that may be read: owned, or of the world at the start. -/
def rdE {α : Type} (w0 : World) (s : Bool) (v : Value) (t : TypeId) (E : Enc α) (l : List α) : Ent := if s then rowE v t E l else ⟨none, fun _ => RdV w0 v E l⟩
theorem St.rdE {α : Type} {w0 w : World} {H : List Ent} {s : Bool} {v : Value} {t : TypeId} {E : Enc α} {l : List α} (h : St w0 [] H w) (i : Nat) (hi : H[i]? = some (Sep.rdE w0 s v t E l)) : RdV w v E l := by
  have hat := h.at i hi
  cases s with
  | true => exact rowE_rd hat
  | false => exact RdV.keep (hat : RdV w0 v E l) h (by simp)
theorem rd0E {α : Type} {n : Nat} {L : Env} {F : Act → World → Prop} {w0 : World} {H : List Ent} {v : Value} (t : TypeId) {E : Enc α} {l : List α} (hr : RdV w0 v E l) (k : Pre n L (St w0 [] (Sep.rdE w0 false v t E l :: H)) F) : Pre n L (St w0 [] H) F := k.world _ (fun w s => s.add (e' := ⟨none, fun _ => RdV w0 v E l⟩) rfl hr)
/-- A law's contract is its walk. -/
theorem con_walk {P : Program} {f : FuncId} {vs : List Value} {E : World → Prop} {w : World} (s : Con P f vs E [] (fun _ : Unit => .bool true) (fun _ => True) (fun _ => [])) (hE : E w) : Calls P f vs.toArray w (fun e w' => e = .returned (.bool true) ∧ Go.RowKit.Below w.heap.size w w') :=
  (s w hE (HP.nil w)).mono (fun e w' ⟨b, he, _, h⟩ => ⟨he, St.below h⟩)
end Go.Sep
