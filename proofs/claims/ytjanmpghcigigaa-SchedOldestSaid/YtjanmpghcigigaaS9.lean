/- From what a row says of its arguments to what a walk asks. -/
import Derived.Test.YtjanmpghcigigaaS8
import Derived.Test.YtjanmpghcigigaaOpen
set_option linter.unusedVariables false
namespace Go.Sep
open Go.Proofs.Ytjanmpghcigigaa
theorem rdv_of {α : Type} {w : World} {B : Nat} {A : Option Addr} {E : Enc α} {l : List α} {c : Nat} (h : Rd w B A (E.flat l)) (hc : l.length ≤ c) : RdV w (.slice A l.length c) E l := by
  refine ⟨A, c, rfl, hc, ?_⟩
  by_cases h0 : E.flat l = []
  · left
    have h1 := E.flat_len l
    rw [h0, List.length_nil] at h1
    have := E.pos
    rcases Nat.mul_eq_zero.1 h1.symm with h2 | h2
    · exact List.eq_nil_of_length_eq_zero h2
    · omega
  · right
    obtain ⟨b, off, e, _, hk⟩ := h h0
    exact ⟨b, off, e, hk⟩
/-- Chunks, each of which is a datum, are a list of data. -/
theorem flat_of {α : Type} (E : Enc α) {ks : List Sc} {W : α → Prop} (hk : ks.length = E.sz) (one : ∀ cs, Kinds ks cs → ∃ a, cs = E.f a ∧ W a) : ∀ (n : Nat) (xs : List Value), xs.length = n * ks.length → (∀ i, i < n → Kinds ks ((xs.drop (i * ks.length)).take ks.length)) → ∃ l : List α, xs = E.flat l ∧ l.length = n ∧ ∀ a ∈ l, W a
  | 0, xs, h, _ => ⟨[], List.eq_nil_of_length_eq_zero (by simpa using h), rfl, by simp⟩
  | n + 1, xs, h, hc => by
    obtain ⟨a, ha, hw⟩ := one _ (hc 0 (by omega))
    rw [Nat.zero_mul, List.drop_zero] at ha
    obtain ⟨l, hl, hn, hW⟩ := flat_of E hk one n (xs.drop ks.length) (by rw [List.length_drop, h, Nat.add_mul]; omega) (fun i hi => by
      have := hc (i + 1) (by omega)
      rw [List.drop_drop]
      rwa [show ks.length + i * ks.length = (i + 1) * ks.length from by rw [Nat.add_mul]; omega])
    refine ⟨a :: l, ?_, by simp [hn], fun b hb => by rcases List.mem_cons.1 hb with rfl | hb; exact hw; exact hW b hb⟩
    rw [E.flat_cons, ← hl, ← ha, List.take_append_drop]
theorem flat_one' {α : Type} (E : Enc α) (f : α → Value) (hE : ∀ a, E.f a = [f a]) (l : List α) : E.flat l = l.map f := by
  induction l with
  | nil => rfl
  | cons a l ih => rw [E.flat_cons, hE, ih]; rfl
theorem wf_u8 {a : Int} (h : (Lit.int .u8 a).wf = true) : 0 ≤ a ∧ a ≤ 255 := by
  simp only [Lit.wf, Bool.and_eq_true, decide_eq_true_eq] at h
  exact ⟨h.1, h.2⟩
theorem wf_u16 {a : Int} (h : (Lit.int .u16 a).wf = true) : 0 ≤ a ∧ a ≤ 65535 := by
  simp only [Lit.wf, Bool.and_eq_true, decide_eq_true_eq] at h
  exact ⟨h.1, h.2⟩
theorem wf_i64 {a : Int} (h : (Lit.int .i64 a).wf = true) : -9223372036854775808 ≤ a ∧ a ≤ 9223372036854775807 := by
  simp only [Lit.wf, Bool.and_eq_true, decide_eq_true_eq] at h
  exact ⟨h.1, h.2⟩
theorem wf_u64 {a : Int} (h : (Lit.int .u64 a).wf = true) : 0 ≤ a ∧ a ≤ 18446744073709551615 := by
  simp only [Lit.wf, Bool.and_eq_true, decide_eq_true_eq] at h
  exact ⟨h.1, h.2⟩
theorem u8_nat {a : Int} (h : (Lit.int .u8 a).wf = true) : ∃ k : Nat, a = (k : Int) ∧ k ≤ 255 := ⟨a.toNat, by have := wf_u8 h; omega, by have := wf_u8 h; omega⟩
theorem u16_nat {a : Int} (h : (Lit.int .u16 a).wf = true) : ∃ k : Nat, a = (k : Int) ∧ k ≤ 65535 := ⟨a.toNat, by have := wf_u16 h; omega, by have := wf_u16 h; omega⟩
/-- A law's contract is its walk. -/
theorem con_walk {P : Program} {f : FuncId} {vs : List Value} {E : World → Prop} {w : World} (s : Con P f vs E [] (fun _ : Unit => .bool true) (fun _ => True) (fun _ => [])) (hE : E w) : Calls P f vs.toArray w (fun e w' => e = .returned (.bool true) ∧ Go.RowKit.Below w.heap.size w w') :=
  (s w hE (HP.nil w)).mono (fun e w' ⟨b, he, _, h⟩ => ⟨he, St.below h⟩)
end Go.Sep
