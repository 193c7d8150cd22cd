/- steps; plain -/
import Derived.Test.YtpfbagkjhchojaaWl
set_option linter.unusedVariables false
set_option linter.unusedSimpArgs false
namespace Go.Proofs.Ytpfbagkjhchojaa
open Go.Sep Go.RowKit

/-! ## Steps -/
structure Sp where
  what : Int
  t : Int
  id : Int
  n : Int
abbrev Sp.c (s : Sp) : List Value := [.int .i64 s.what, .int .i64 s.t, .int .i64 s.id, .int .i64 s.n]
theorem Sp.one (s : Sp) : ∀ x ∈ s.c, x.oneCell' = true := fun x hx => by
  simp only [Sp.c, List.mem_cons, List.not_mem_nil, or_false] at hx
  rcases hx with rfl | rfl | rfl | rfl <;> rfl
def encSp : Enc Sp := ⟨4, Sp.c, fun _ => rfl, Sp.one, by decide⟩
def kinds_0 : List Sc := [Sc.i .i64, Sc.i .i64, Sc.i .i64, Sc.i .i64]
theorem sp_one (cs : List Value) (h : Kinds kinds_0 cs) : ∃ a : Sp, cs = encSp.f a ∧ i64 a.id := by
  obtain ⟨hl, hk⟩ := h
  match cs, hl with
  | [u, v, x, y], _ =>
    obtain ⟨p, rfl, hp⟩ := hk 0 _ u rfl rfl
    obtain ⟨q, rfl, hq⟩ := hk 1 _ v rfl rfl
    obtain ⟨r, rfl, hr⟩ := hk 2 _ x rfl rfl
    obtain ⟨s, rfl, hs⟩ := hk 3 _ y rfl rfl
    exact ⟨⟨p, q, r, s⟩, rfl, hr⟩
def fewS (s : Sp) (i : Nat) : Sp := if 0 < i % 9 then ⟨s.what, s.t % 6, s.id % 8, s.n⟩ else s
theorem few_yes {s : Sp} {i : Nat} (h : 0 < i % 9) : fewS s i = ⟨s.what, s.t % 6, s.id % 8, s.n⟩ := if_pos h
theorem few_no {s : Sp} {i : Nat} (h : ¬ 0 < i % 9) : fewS s i = s := if_neg h
theorem few_what (s : Sp) (i : Nat) : (fewS s i).what = s.what := by unfold fewS; split <;> rfl
theorem few_id {s : Sp} {i : Nat} (h : i64 s.id) : i64 (fewS s i).id := by
  unfold fewS; split
  · exact i64_in (by show -60000 ≤ s.id % 8; omega) (by show s.id % 8 ≤ 60000; omega)
  · exact h
/-! ## As many frames as ever -/
theorem put_len (M : Mo) (i : Nat) (y : Vw) : (M.put i y).fr.length = M.fr.length := List.length_set
theorem pin_len (M : Mo) (t b : Int) : (M.pin t b).2.fr.length = M.fr.length := by
  unfold Mo.pin
  split
  · rfl
  · split
    · simp only; split
      · exact put_len _ _ _
      · exact put_len _ _ _
    · split
      · rfl
      · exact put_len _ _ _
theorem claim_len (M : Mo) (t : Int) : (M.claim t).2.fr.length = M.fr.length := by
  unfold Mo.claim
  split
  · rfl
  · split
    · rfl
    · exact put_len _ _ _
theorem fill_len (M : Mo) (b : Int) (lf : Bool) (es : List En) : (M.fill b lf es).2.fr.length = M.fr.length := by
  unfold Mo.fill
  split
  · exact put_len _ _ _
  · rfl
theorem name_len (M : Mo) (t b : Int) (lf : Bool) (es : List En) : (M.name t b lf es).2.fr.length = M.fr.length := by
  unfold Mo.name
  split
  · exact put_len _ _ _
  · rfl
theorem unpin_len (M : Mo) (b : Int) : (M.unpin b).2.fr.length = M.fr.length := by
  unfold Mo.unpin
  split
  · split
    · rfl
    · exact put_len _ _ _
  · rfl
theorem set_len (M : Mo) (b : Int) (lf : Bool) (es : List En) : (M.setN b lf es).2.fr.length = M.fr.length := by
  unfold Mo.setN
  split
  · exact put_len _ _ _
  · rfl
theorem give_len (M : Mo) (t : Int) : (M.give t).fr.length = M.fr.length := List.length_map ..
theorem evict_len {M : Mo} {B : Nat} (h : M.Ok B) : M.evict.2.fr.length = M.fr.length := by
  cases hs : (swM M.can M.rfs M.hand).1 with
  | none => rw [evict_none hs]
  | some k =>
    obtain ⟨y, hy, _⟩ := sw_y h hs
    rw [evict_some hs hy]
    show ((Mo.reref M.fr _).set k free0).length = _
    rw [List.length_set, reref_len (sw_left h)]
/-- What is pinned stays. -/
theorem evict_kept {M : Mo} {B : Nat} (h : M.Ok B) {a : Nat} {y : Vw} (hy : M.fr[a]? = some y) (hp : 0 < y.pins) : ∃ z, M.evict.2.fr[a]? = some z ∧ z.st = y.st ∧ z.blk = y.blk ∧ z.pins = y.pins := by
  cases hs : (swM M.can M.rfs M.hand).1 with
  | none => rw [evict_none hs]; exact ⟨y, hy, rfl, rfl, rfl⟩
  | some k =>
    obtain ⟨x, hx, _, hx0⟩ := sw_y h hs
    rw [evict_some hs hx]
    have hka : k ≠ a := fun e => by subst e; rw [hx] at hy; cases hy; omega
    refine ⟨{ y with ref := (swM M.can M.rfs M.hand).2.getD a false }, ?_, rfl, rfl, rfl⟩
    show ((Mo.reref M.fr _).set k free0)[a]? = _
    rw [List.getElem?_set_ne hka, reref_get (sw_left h), hy]; rfl
theorem one_blk {M : Mo} {B : Nat} (h : M.Ok B) {a b : Nat} {y z : Vw} (hy : M.fr[a]? = some y) (hz : M.fr[b]? = some z) (hab : b < a) (h0 : 0 ≤ y.blk) : ¬ y.blk = z.blk := fun e => by
  have hs : ∀ (x : Vw), x ∈ M.fr → 0 ≤ x.blk → x.st = 1 ∨ x.st = 2 := fun x hx h0 => by
    rcases h.st x hx with s | s | s | s
    · have := h.none' x hx (.inl s); omega
    · exact .inl s
    · exact .inr s
    · have := h.none' x hx (.inr s); omega
  have := h.uni a b y z hy hz (hs y (List.mem_of_getElem? hy) h0) (hs z (List.mem_of_getElem? hz) (by omega)) e
  omega
theorem frs_len {l : List FC} {fr : List Vw} (h : l.map vw = fr) {n : Nat} (hn : fr.length = n) : l.length = n := by rw [← hn, ← h, List.length_map]
theorem frs_at {l : List FC} {fr : List Vw} (h : l.map vw = fr) {i : Nat} {f : FC} (hf : l[i]? = some f) : fr[i]? = some (vw f) := by rw [← h, List.getElem?_map, hf]; rfl

set_option maxRecDepth 100000 in
set_option maxHeartbeats 1000000 in
theorem few_spec (s : Sp) (i : Nat) : Con Try.prog 27 [.agg s.c.toArray, .int .i64 (i : Int)] (fun _ => True) [] (fun _ : Unit => .agg (fewS s i).c.toArray) (fun _ => True) (fun _ => []) := by
  intro w hE hH
  refine enter (n := 17) (vs := [.agg s.c.toArray, .int .i64 (i : Int)]) (St w [] []) Try.func27 rfl rfl rfl (St.init hH) ?_
  refine c_seq ?_
  refine c_region _ rfl ?_
  refine l_e rfl ?_
  refine e_box rfl rfl rfl rfl ?_
  intro bs
  refine cells_eq (show _ = s.c from rfl) ?_
  refine l_e rfl ?_
  refine e_alloc rfl rfl rfl Try.zeroValue60 ?_
  intro br
  refine cells_eq (show _ = (⟨0, 0, 0, 0⟩ : Sp).c from rfl) ?_
  refine l_nil ?_
  refine k_then ?_
  refine c_seq ?_
  refine c_seq ?_
  refine c_region _ rfl ?_
  refine l_q rfl (q_move rfl rfl) rfl rfl ?_
  refine l_q rfl (q_rem_nn rfl rfl rfl (by omega) (by omega)) rfl rfl ?_
  refine l_q rfl (q_gtr rfl rfl rfl) rfl rfl ?_
  refine l_nil ?_
  refine k_then ?_
  refine Pre.caseB 7 rfl (fun h1 => ?_) (fun h1 => ?_)
  · try simp only [decide_eq_true_eq, decide_eq_false_iff_not, Bool.not_eq_true', Bool.not_eq_false'] at h1
    refine c_true rfl ?_
    refine c_draw [(0, some true), (1, some true), (3, some true), (4, some true), (2, some false), (6, some true), (5, some false), (7, none), (8, none), (9, none)] [7, 8, 9] [(_, some true), (_, some true), (_, some true), (_, some true), (_, some false), (_, some true), (_, some false), (_, none), (_, none), (_, none)] (fun w2 => (cellsE bs 60 s.c).at w2) (blind_then blind_body) rfl (by kernel_rfl) (by kernel_rfl) rfl rfl rfl (by kernel_rfl) St.drawn (fun _ h => h.at 1 rfl) ?_
    refine d_q rfl (q_fieldAddr rfl Try.underlying60 rfl Try.sizeOf3 rfl rfl) rfl rfl ?_
    refine d_q rfl (q_loadC rfl Try.isAgg3 rfl (fun _ h => h) rfl) rfl rfl ?_
    refine d_q rfl (q_fieldAddr rfl Try.underlying60 rfl Try.sizeOf3 rfl rfl) rfl rfl ?_
    refine d_q rfl (q_loadC rfl Try.isAgg3 rfl (fun _ h => h) rfl) rfl rfl ?_
    refine d_e rfl ?_
    refine e_call_00 (plc_spec s.t 6 (by decide) (by decide)) rfl rfl rfl Try.call10 rfl (fun _ _ => trivial) ?_
    intro _ _
    refine d_held (fun _ h => h.at 1 rfl) ?_
    refine d_q rfl (q_fieldAddr rfl Try.underlying60 rfl Try.sizeOf3 rfl rfl) rfl rfl ?_
    refine d_e rfl ?_
    refine e_call_00 (plc_spec s.id 8 (by decide) (by decide)) rfl rfl rfl Try.call10 rfl (fun _ _ => trivial) ?_
    intro _ _
    refine d_held (fun _ h => h.at 1 rfl) ?_
    refine pull1 ?_
    refine d_t rfl ?_
    refine e_store rfl rfl Try.sizeOf3 rfl rfl rfl (Nat.le_of_ble_eq_true rfl) ?_
    refine cells_eq (show _ = (⟨s.what, s.t % 6, s.id, s.n⟩ : Sp).c from rfl) ?_
    refine d_t rfl ?_
    refine e_q rfl rfl (q_fieldAddr rfl Try.underlying60 rfl Try.sizeOf3 rfl rfl) ?_
    refine d_t rfl ?_
    refine e_store rfl rfl Try.sizeOf3 rfl rfl rfl (Nat.le_of_ble_eq_true rfl) ?_
    refine cells_eq (show _ = (⟨s.what, s.t % 6, s.id % 8, s.n⟩ : Sp).c from rfl) ?_
    refine d_nil ?_
    refine k_then ?_
    refine c_seq ?_
    refine c_region _ rfl ?_
    refine l_q rfl (q_loadCAgg (((⟨s.what, s.t % 6, s.id % 8, s.n⟩ : Sp)).c) rfl Try.isAgg60 Try.sizeOf60 rfl (fun _ h => h.at 0 rfl) (rfl) (rfl)) rfl rfl ?_
    refine pull1 ?_
    refine l_e rfl ?_
    refine e_storeAgg rfl rfl Try.sizeOf60 rfl rfl rfl (Sp.one _) (by show 0 + 4 ≤ 4; decide) ?_
    refine cells_eq (show Sep.splice _ 0 ((⟨s.what, s.t % 6, s.id % 8, s.n⟩ : Sp)).c = ((⟨s.what, s.t % 6, s.id % 8, s.n⟩ : Sp)).c from Sep.splice_all rfl) ?_
    refine l_nil ?_
    refine k_then ?_
    refine c_ret ?_
    refine r_res1 rfl (res_cellA rfl Try.isAgg60 Try.sizeOf60 (fun _ h => h.at 0 rfl) (rfl)) ?_
    exact fun _ h => ⟨(), by rw [few_yes (by omega)], trivial, h.nothing⟩
  · try simp only [decide_eq_true_eq, decide_eq_false_iff_not, Bool.not_eq_true', Bool.not_eq_false'] at h1
    refine c_false rfl ?_
    refine c_skip ?_
    refine k_then ?_
    refine c_seq ?_
    refine c_region _ rfl ?_
    refine l_q rfl (q_loadCAgg ((s).c) rfl Try.isAgg60 Try.sizeOf60 rfl (fun _ h => h.at 1 rfl) (rfl) (rfl)) rfl rfl ?_
    refine l_e rfl ?_
    refine e_storeAgg rfl rfl Try.sizeOf60 rfl rfl rfl (Sp.one _) (by show 0 + 4 ≤ 4; decide) ?_
    refine cells_eq (show Sep.splice _ 0 (s).c = (s).c from Sep.splice_all rfl) ?_
    refine l_nil ?_
    refine k_then ?_
    refine c_ret ?_
    refine r_res1 rfl (res_cellA rfl Try.isAgg60 Try.sizeOf60 (fun _ h => h.at 0 rfl) (rfl)) ?_
    exact fun _ h => ⟨(), by rw [few_no (by omega)], trivial, h.nothing⟩
end Go.Proofs.Ytpfbagkjhchojaa
