/- the cache as data: what is always so stays so -/
import Derived.Test.YtpfbagkjhchojaaX
set_option linter.unusedVariables false
set_option linter.unusedSimpArgs false
namespace Go.Proofs.Ytpfbagkjhchojaa
open Go.Sep Go.RowKit

/-! # What is always so stays so -/
theorem find_no {M : Mo} {b : Int} (h : M.find b = none) : ∀ (j : Nat) (z : Vw), M.fr[j]? = some z → z.st = 1 ∨ z.st = 2 → z.blk ≠ b := fun j z hz hs e => by
  have := fst1_no (p := isB b) (l := M.fr) h z (List.mem_of_getElem? hz)
  unfold isB at this
  rcases hs with hs | hs <;> simp [e, hs] at this
theorem bk_rng {b : Int} (h : bkB b = true) : 0 ≤ b ∧ b < 256 := by unfold bkB at h; simpa using h
theorem tk_rng {t : Int} (h : tkB t = true) : 0 ≤ t ∧ t < 8 := by unfold tkB at h; simpa using h
theorem mayW_tk {M : Mo} {t b : Int} (h : M.mayW t b = true) : tkB t = true := by
  unfold Mo.mayW at h; cases hh : tkB t with
  | true => rfl
  | false => rw [hh] at h; simp at h
theorem pin_ok {M : Mo} {B : Nat} (h : M.Ok B) (t b : Int) (hB : B + 1 ≤ 60000) : (M.pin t b).2.Ok (B + 1) := by
  have h1 := h.mono (Nat.le_succ B) hB
  cases hc : (bkB b && M.mayW t b) with
  | false => rw [pin_no hc]; exact h1
  | true =>
    have hbk : bkB b = true := by rw [Bool.and_eq_true] at hc; exact hc.1
    have hbr := bk_rng hbk
    cases hf : M.find b with
    | none =>
      cases hk : M.takes t with
      | none => rw [pin_queue hc hf hk]; exact ask_ok h t b ⟨by omega, by omega⟩ hB
      | some k =>
        rw [pin_read hc hf hk]
        obtain ⟨y, hy, hys, _⟩ := takes_at hk
        refine put_ok (M := M.leave t) (leave_ok h1 t) (y := y) hy (.inr (.inl rfl)) (fun e => by rcases e with e | e <;> cases e) (fun _ => hbr) (fun e => by cases e) (fun _ => rfl) ⟨by show (0 : Int) ≤ 1; decide, by show (1 : Int) ≤ _; omega⟩ (fun _ j z _ hz hs => find_no hf j z hz hs) (fun q _ e => by rw [hys] at e; cases e) (by show 0 ≤ 1000; decide)
    | some i =>
      obtain ⟨y, hy, hyb, hys, hya⟩ := find_at hf
      rw [pin_at hc hf hya]
      have hm := List.mem_of_getElem? hy
      have hp := h.pins y hm
      have hP : ((M.put i { y with pins := y.pins + 1, ref := true }).leave t).Ok (B + 1) := leave_ok (put_ok_same (y' := { y with pins := y.pins + 1, ref := true }) h1 hy rfl rfl rfl ⟨by show 0 ≤ y.pins + 1; omega, by show y.pins + 1 ≤ ((B + 1 : Nat) : Int); omega⟩ (h.es y hm)) t
      split
      · exact hP
      · rename_i h2
        refine ⟨hP.n1, hP.n64, hP.st, hP.none', hP.blk, hP.own, hP.own0, hP.pins, hP.uni, ?_, hP.lB, hP.ln, hP.lb, fun q hq => ?_, hP.es, hP.hw, hP.B9⟩
        · show (M.loads ++ [(t, b)]).length ≤ B + 1
          rw [List.length_append]; have := h.ll; simp; omega
        · rcases List.mem_append.1 (show q ∈ M.loads ++ [(t, b)] from hq) with hq | hq
          · exact hP.lo q hq
          · rw [List.mem_singleton] at hq; subst hq
            refine ⟨{ y with pins := y.pins + 1, ref := true }, ?_, by rcases hys with e | e; exact e; exact absurd e h2, hyb⟩
            exact List.mem_of_getElem? (show (M.fr.set i _)[i]? = some _ from List.getElem?_set_self (List.getElem?_eq_some_iff.1 hy).1)
theorem claim_ok {M : Mo} {B : Nat} (h : M.Ok B) (t : Int) (hB : B + 1 ≤ 60000) : (M.claim t).2.Ok (B + 1) := by
  have h1 := h.mono (Nat.le_succ B) hB
  cases hc : M.mayW t (-1) with
  | false => rw [claim_no hc]; exact h1
  | true =>
    have htr := tk_rng (mayW_tk hc)
    cases hk : M.takes t with
    | none => rw [claim_queue hc hk]; exact ask_ok h t (-1) ⟨by omega, by omega⟩ hB
    | some k =>
      rw [claim_some hc hk]
      obtain ⟨y, hy, hys, _⟩ := takes_at hk
      exact put_ok (M := M.leave t) (leave_ok h1 t) (y := y) hy (.inr (.inr (.inr rfl))) (fun _ => rfl) (fun e => by rcases e with e | e <;> cases e) (fun _ => htr) (fun e => absurd rfl e) ⟨by show (0 : Int) ≤ 1; decide, by show (1 : Int) ≤ _; omega⟩ (fun e => by rcases e with e | e <;> cases e) (fun q _ e => by rw [hys] at e; cases e) (by show 0 ≤ 1000; decide)
theorem fill_ok {M : Mo} {B : Nat} (h : M.Ok B) (b : Int) (lf : Bool) (es : List En) (he : es.length ≤ 1000) : (M.fill b lf es).2.Ok B := by
  cases hf : M.frI b 1 with
  | none => rw [fill_none lf es hf]; exact h
  | some i =>
    rw [fill_some lf es hf]
    obtain ⟨hf1, hst⟩ := frI_at hf
    obtain ⟨y, hy, hyb, hys, hya⟩ := find_at hf1
    rw [hya] at hst ⊢
    have hm := List.mem_of_getElem? hy
    have hF : ({ M with loads := M.loads.filter (fun q => !decide (q.2 = b)) } : Mo).Ok B :=
      ⟨h.n1, h.n64, h.st, h.none', h.blk, h.own, h.own0, h.pins, h.uni, Nat.le_trans (List.length_filter_le _ _) h.ll, h.lB, h.ln, h.lb, fun q hq => h.lo q (List.mem_filter.1 hq).1, h.es, h.hw, h.B9⟩
    refine put_ok (M := { M with loads := M.loads.filter (fun q => !decide (q.2 = b)) }) hF (i := i) (y := y) (y' := { y with st := 2, leaf := lf, es := es }) hy (.inr (.inr (.inl rfl))) (fun e => by rcases e with e | e <;> cases e) (fun _ => h.blk y hm hys) (fun e => by cases e) (fun _ => h.own0 y hm (by rw [hst]; decide)) (h.pins y hm) (fun _ j z hj hz hs e => hj (h.uni j i z y hz hy hs hys e)) (fun q hq _ e => ?_) he
    have := (List.mem_filter.1 hq).2
    rw [show q.2 = b from by rw [← e]; exact hyb] at this
    simp at this
theorem give_ok {M : Mo} {B : Nat} (h : M.Ok B) (t : Int) : (M.give t).Ok B := by
  have hm : ∀ f ∈ (M.give t).fr, (f ∈ M.fr ∧ isC t f = false) ∨ f = free0 := fun f hf => by
    obtain ⟨g, hg, e⟩ := List.mem_map.1 (show f ∈ M.fr.map (fun f => if isC t f = true then free0 else f) from hf)
    split at e
    · exact .inr e.symm
    · rename_i hn; subst e; exact .inl ⟨hg, by simpa using hn⟩
  have hg : ∀ (i : Nat) (f : Vw), (M.give t).fr[i]? = some f → M.fr[i]? = some f ∨ f = free0 := fun i f hf => by
    rw [show (M.give t).fr = M.fr.map (fun f => if isC t f = true then free0 else f) from rfl, List.getElem?_map, Option.map_eq_some_iff] at hf
    obtain ⟨g, hg, e⟩ := hf
    split at e
    · exact .inr e.symm
    · subst e; exact .inl hg
  have hl : (M.give t).fr.length = M.fr.length := List.length_map ..
  refine ⟨by rw [hl]; exact h.n1, by rw [hl]; exact h.n64, fun f hf => ?_, fun f hf => ?_, fun f hf => ?_, fun f hf => ?_, fun f hf => ?_, fun f hf => ?_, fun i j f g hi hj hf hg2 e => ?_, h.ll, h.lB, h.ln, h.lb, fun q hq => ?_, fun f hf => ?_, h.hw, h.B9⟩
  · rcases hm f hf with ⟨hf, _⟩ | rfl
    · exact h.st f hf
    · exact .inl rfl
  · rcases hm f hf with ⟨hf, _⟩ | rfl
    · exact h.none' f hf
    · exact fun _ => rfl
  · rcases hm f hf with ⟨hf, _⟩ | rfl
    · exact h.blk f hf
    · exact fun e => by rcases e with e | e <;> cases e
  · rcases hm f hf with ⟨hf, _⟩ | rfl
    · exact h.own f hf
    · exact fun e => by cases e
  · rcases hm f hf with ⟨hf, _⟩ | rfl
    · exact h.own0 f hf
    · exact fun _ => rfl
  · rcases hm f hf with ⟨hf, _⟩ | rfl
    · exact h.pins f hf
    · exact ⟨by decide, by show (0 : Int) ≤ _; omega⟩
  · rcases hg i f hi with hi | rfl
    · rcases hg j g hj with hj | rfl
      · exact h.uni i j f g hi hj hf hg2 e
      · rcases hg2 with e | e <;> cases e
    · rcases hf with e | e <;> cases e
  · obtain ⟨f, hf, h1, h2⟩ := h.lo q hq
    refine ⟨f, List.mem_map.2 ⟨f, hf, ?_⟩, h1, h2⟩
    rw [if_neg]
    rw [isC_st (by rw [h1]; decide)]; decide
  · rcases hm f hf with ⟨hf, _⟩ | rfl
    · exact h.es f hf
    · show 0 ≤ 1000; decide
theorem name_ok {M : Mo} {B : Nat} (h : M.Ok B) (t b : Int) (lf : Bool) (es : List En) (he : es.length ≤ 1000) : (M.name t b lf es).2.Ok B := by
  cases hb : (bkB b && (M.find b).isNone) with
  | false => rw [name_no1 lf es hb]; exact h
  | true =>
    cases hk : fst1 (isC t) M.fr with
    | none => rw [name_no2 lf es hk]; exact h
    | some k =>
      rw [name_yes lf es hb hk]
      rw [Bool.and_eq_true, Option.isNone_iff_eq_none] at hb
      obtain ⟨y, hy, hc, _⟩ := fst1_at hk
      have hys : y.st = 3 := by unfold isC at hc; simp only [Bool.and_eq_true, decide_eq_true_eq] at hc; exact hc.1
      exact put_ok h hy (.inr (.inr (.inl rfl))) (fun e => by rcases e with e | e <;> cases e) (fun _ => bk_rng hb.1) (fun e => by cases e) (fun _ => rfl) ⟨by show (0 : Int) ≤ 0; decide, by show (0 : Int) ≤ _; omega⟩ (fun _ j z _ hz hs => find_no hb.2 j z hz hs) (fun q _ e => by rw [hys] at e; cases e) he
theorem unpin_ok {M : Mo} {B : Nat} (h : M.Ok B) (b : Int) : (M.unpin b).2.Ok B := by
  cases hf : M.frI b 2 with
  | none => rw [unpin_none hf]; exact h
  | some i =>
    obtain ⟨hf1, hst⟩ := frI_at hf
    obtain ⟨y, hy, hyb, hys, hya⟩ := find_at hf1
    by_cases hp : (M.at' i).pins = 0
    · rw [unpin_zero hf hp]; exact h
    · rw [unpin_some hf hp]
      rw [hya] at hp ⊢
      have hm := List.mem_of_getElem? hy
      have := h.pins y hm
      exact put_ok_same h hy rfl rfl rfl ⟨by show 0 ≤ y.pins - 1; omega, by show y.pins - 1 ≤ _; omega⟩ (h.es y hm)
theorem set_ok {M : Mo} {B : Nat} (h : M.Ok B) (b : Int) (lf : Bool) (es : List En) (he : es.length ≤ 1000) : (M.setN b lf es).2.Ok B := by
  cases hf : M.frI b 2 with
  | none => rw [set_none lf es hf]; exact h
  | some i =>
    rw [set_some lf es hf]
    obtain ⟨hf1, hst⟩ := frI_at hf
    obtain ⟨y, hy, hyb, hys, hya⟩ := find_at hf1
    rw [hya]
    exact put_ok_same h hy rfl rfl rfl (h.pins y (List.mem_of_getElem? hy)) he
theorem reref_ok {M : Mo} {B : Nat} (h : M.Ok B) {l : List Bool} (hl : l.length = M.fr.length) {hd : Int} (hw : (Lit.int .i64 hd).wf = true) : ({ M with fr := Mo.reref M.fr l, hand := hd } : Mo).Ok B := by
  have hm : ∀ f ∈ Mo.reref M.fr l, ∃ g ∈ M.fr, ∃ b, f = { g with ref := b } := fun f hf => by
    obtain ⟨p, hp, rfl⟩ := List.mem_map.1 hf
    exact ⟨p.1, (List.of_mem_zip hp).1, p.2, rfl⟩
  have hg := reref_get hl
  refine ⟨by show 1 ≤ (Mo.reref M.fr l).length; rw [reref_len hl]; exact h.n1, by show (Mo.reref M.fr l).length ≤ _; rw [reref_len hl]; exact h.n64, fun f hf => ?_, fun f hf => ?_, fun f hf => ?_, fun f hf => ?_, fun f hf => ?_, fun f hf => ?_, fun i j f g hi hj hf hg2 e => ?_, h.ll, h.lB, h.ln, h.lb, fun q hq => ?_, fun f hf => ?_, hw, h.B9⟩
  · obtain ⟨g, hg, b, rfl⟩ := hm f hf; exact h.st g hg
  · obtain ⟨g, hg, b, rfl⟩ := hm f hf; exact h.none' g hg
  · obtain ⟨g, hg, b, rfl⟩ := hm f hf; exact h.blk g hg
  · obtain ⟨g, hg, b, rfl⟩ := hm f hf; exact h.own g hg
  · obtain ⟨g, hg, b, rfl⟩ := hm f hf; exact h.own0 g hg
  · obtain ⟨g, hg, b, rfl⟩ := hm f hf; exact h.pins g hg
  · rw [show ({ M with fr := Mo.reref M.fr l, hand := hd } : Mo).fr = Mo.reref M.fr l from rfl, hg, Option.map_eq_some_iff] at hi hj
    obtain ⟨f', hi, rfl⟩ := hi
    obtain ⟨g', hj, rfl⟩ := hj
    exact h.uni i j f' g' hi hj hf hg2 e
  · obtain ⟨f, hf, h1, h2⟩ := h.lo q hq
    obtain ⟨i, hi⟩ := List.mem_iff_getElem?.1 hf
    exact ⟨{ f with ref := l.getD i false }, List.mem_of_getElem? (show (Mo.reref M.fr l)[i]? = some _ from by rw [hg, hi]; rfl), h1, h2⟩
  · obtain ⟨g, hg, b, rfl⟩ := hm f hf; exact h.es g hg
theorem sw_left {M : Mo} {B : Nat} (h : M.Ok B) : (swM M.can M.rfs M.hand).2.length = M.fr.length := by
  have hcn : M.can.length = M.fr.length := List.length_map ..
  have hrn : M.rfs.length = M.fr.length := List.length_map ..
  rw [left_len (by rw [hcn, hrn]) (fun e => by rw [e] at hcn; have := h.n1; simp at hcn; omega), hcn]
theorem sw_y {M : Mo} {B : Nat} (_h : M.Ok B) {k : Nat} (hs : (swM M.can M.rfs M.hand).1 = some k) : ∃ y, M.fr[k]? = some y ∧ y.st = 2 ∧ y.pins = 0 := by
  obtain ⟨hck, hkl, _⟩ := sw_can hs
  have hcn : M.can.length = M.fr.length := List.length_map ..
  obtain ⟨y, hy⟩ : ∃ y, M.fr[k]? = some y := ⟨_, List.getElem?_eq_getElem (by omega)⟩
  refine ⟨y, hy, ?_⟩
  have : M.can.getD k false = (decide (y.st = 2) && decide (y.pins = 0)) := by unfold Mo.can; rw [List.getD_eq_getElem?_getD, List.getElem?_map, hy]; rfl
  rw [this] at hck
  simpa using hck
theorem evict_ok {M : Mo} {B : Nat} (h : M.Ok B) : M.evict.2.Ok B := by
  cases hs : (swM M.can M.rfs M.hand).1 with
  | none => rw [evict_none hs]; exact h
  | some k =>
    obtain ⟨y, hy, h2, hp⟩ := sw_y h hs
    rw [evict_some hs hy]
    have hl := sw_left h
    have hcn : M.can.length = M.fr.length := List.length_map ..
    have hr := reref_ok h hl (wf_next hs (by have := h.n64; omega))
    have hk : (Mo.reref M.fr (swM M.can M.rfs M.hand).2)[k]? = some { y with ref := (swM M.can M.rfs M.hand).2.getD k false } := by rw [reref_get hl, hy]; rfl
    exact put_ok (M := { M with fr := Mo.reref M.fr (swM M.can M.rfs M.hand).2, hand := swN M.can M.rfs M.hand }) hr (y' := free0) hk (.inl rfl) (fun _ => rfl) (fun e => by rcases e with e | e <;> cases e) (fun e => by cases e) (fun _ => rfl) ⟨by decide, by show (0 : Int) ≤ _; omega⟩ (fun e => by rcases e with e | e <;> cases e) (fun q _ e => by rw [show y.st = 1 from e] at h2; cases h2) (by show 0 ≤ 1000; decide)
theorem mo0_ok {n : Nat} (h1 : 1 ≤ n) (h2 : n ≤ 64) : (mo0 n).Ok 0 := by
  have hm : ∀ f ∈ (mo0 n).fr, f = free0 := fun f hf => (List.mem_replicate.1 (show f ∈ List.replicate n free0 from hf)).2
  have hl : (mo0 n).fr.length = n := List.length_replicate ..
  refine ⟨by omega, by omega, fun f hf => ?_, fun f hf => ?_, fun f hf => ?_, fun f hf => ?_, fun f hf => ?_, fun f hf => ?_, fun i j f g hi _ hf _ _ => ?_, Nat.le_refl _, Nat.le_refl _, List.nodup_nil, (fun q hq => nomatch hq), (fun q hq => nomatch hq), fun f hf => ?_, rfl, by decide⟩
  · rw [hm f hf]; exact .inl rfl
  · rw [hm f hf]; exact fun _ => rfl
  · rw [hm f hf]; exact fun e => by rcases e with e | e <;> cases e
  · rw [hm f hf]; exact fun e => by cases e
  · rw [hm f hf]; exact fun _ => rfl
  · rw [hm f hf]; exact ⟨by decide, by decide⟩
  · rw [hm f (List.mem_of_getElem? hi)] at hf; rcases hf with e | e <;> cases e
  · rw [hm f hf]; show 0 ≤ 1000; decide

end Go.Proofs.Ytpfbagkjhchojaa
