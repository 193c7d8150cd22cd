/- clock: plain facts -/
import Derived.Test.YthjnfbpimcdndaaC
set_option linter.unusedVariables false
set_option linter.unusedSimpArgs false
namespace Go.Proofs.Ythjnfbpimcdndaa
open Go.Sep Go.RowKit

/-- Once round from h on. -/
def ring (n h : Nat) : List Nat := (List.range n).map (fun i => (h + i) % n)
theorem spots_ring {n h : Nat} : spots n h = ring n h ++ ring n h := by
  unfold spots ring
  rw [show 2 * n = n + n from by omega, List.range_add, List.map_append, List.map_map]
  congr 1
  refine List.map_congr_left (fun i _ => ?_)
  show (h + (n + i)) % n = _
  rw [show h + (n + i) = (h + i) + n from by omega, Nat.add_mod_right]
theorem ring_nodup {n h : Nat} : (ring n h).Nodup := by
  unfold ring
  rw [List.nodup_iff_pairwise_ne, List.pairwise_map]
  refine (List.nodup_iff_pairwise_ne.1 List.nodup_range).imp_of_mem (fun {a b} ha hb hne he => hne ?_)
  have ha' := List.mem_range.1 ha
  have hb' := List.mem_range.1 hb
  have h1 := Nat.div_add_mod (h + a) n
  have h2 := Nat.div_add_mod (h + b) n
  rw [he] at h1
  generalize (h + a) / n = x at *
  generalize (h + b) / n = y at *
  generalize (h + b) % n = z at *
  rcases Nat.lt_trichotomy x y with hxy | hxy | hxy
  · have : n * (x + 1) ≤ n * y := Nat.mul_le_mul_left _ hxy
    rw [Nat.mul_add] at this; omega
  · subst hxy; omega
  · have : n * (y + 1) ≤ n * x := Nat.mul_le_mul_left _ hxy
    rw [Nat.mul_add] at this; omega
theorem ring_mem {n h j : Nat} (hn : 0 < n) : j ∈ ring n h ↔ j < n := by
  unfold ring
  simp only [List.mem_map, List.mem_range]
  constructor
  · rintro ⟨i, _, rfl⟩; exact Nat.mod_lt _ hn
  · intro hj
    refine ⟨(j + (n - h % n)) % n, Nat.mod_lt _ hn, ?_⟩
    have hm := Nat.mod_lt h hn
    have e := Nat.div_add_mod h n
    rw [Nat.add_mod, Nat.mod_mod, ← Nat.add_mod]
    rw [show h + (j + (n - h % n)) = j + n * (h / n + 1) from by rw [Nat.mul_add]; omega, Nat.add_mul_mod_self_left, Nat.mod_eq_of_lt hj]
/-- The refs of those that can go, taken away. -/
def clr (cs : List Bool) (ks : List Nat) (l : List Bool) : List Bool := ks.foldl (fun l k => if cs.getD k false then l.set k false else l) l
theorem clr_len (cs : List Bool) : ∀ (ks : List Nat) (l : List Bool), (clr cs ks l).length = l.length
  | [], l => rfl
  | k :: ks, l => by
    show (clr cs ks (if cs.getD k false then l.set k false else l)).length = _
    rw [clr_len cs ks]; split <;> simp
theorem setb_get {l : List Bool} {k j : Nat} : (l.set k false).getD j false = if k = j then false else l.getD j false := by
  simp only [List.getD_eq_getElem?_getD, List.getElem?_set]
  by_cases hk : k = j
  · subst hk; by_cases hl : k < l.length <;> simp [hl]
  · simp [hk]
theorem clr_get (cs : List Bool) (j : Nat) : ∀ (ks : List Nat) (l : List Bool), (clr cs ks l).getD j false = if j ∈ ks ∧ cs.getD j false = true then false else l.getD j false
  | [], l => by simp [clr]
  | k :: ks, l => by
    show (clr cs ks (if cs.getD k false then l.set k false else l)).getD j false = _
    rw [clr_get cs j ks]
    by_cases hj : j ∈ ks ∧ cs.getD j false = true
    · rw [if_pos hj, if_pos ⟨List.mem_cons_of_mem _ hj.1, hj.2⟩]
    · rw [if_neg hj]
      by_cases hk : cs.getD k false = true
      · rw [if_pos hk, setb_get]
        by_cases hkj : k = j
        · subst hkj; rw [if_pos rfl, if_pos ⟨List.mem_cons_self .., hk⟩]
        · rw [if_neg hkj, if_neg (fun h => by rcases List.mem_cons.1 h.1 with e | e; exact hkj e.symm; exact hj ⟨e, h.2⟩)]
      · rw [if_neg hk, if_neg (fun h => by rcases List.mem_cons.1 h.1 with e | e; subst e; exact hk h.2; exact hj ⟨e, h.2⟩)]
theorem scn_cons (cs : List Bool) (k : Nat) (ks : List Nat) (l : List Bool) : scn cs (k :: ks) l = if cs.getD k false then (if l.getD k false then scn cs ks (l.set k false) else (some k, l)) else scn cs ks l := rfl
/-- Past those that cannot go, or have their ref. -/
theorem scn_skip (cs : List Bool) (r : List Nat) : ∀ (ks : List Nat) (l : List Bool), ks.Nodup → (∀ k ∈ ks, cs.getD k false = true → l.getD k false = true) → scn cs (ks ++ r) l = scn cs r (clr cs ks l)
  | [], l, _, _ => rfl
  | k :: ks, l, hn, h => by
    have hn' := List.nodup_cons.1 hn
    show scn cs (k :: (ks ++ r)) l = scn cs r (clr cs ks (if cs.getD k false then l.set k false else l))
    rw [scn_cons]
    by_cases hk : cs.getD k false = true
    · rw [if_pos hk, if_pos (h k (List.mem_cons_self ..) hk), if_pos hk]
      exact scn_skip cs r ks _ hn'.2 (fun x hx hc => by
        rw [setb_get, if_neg (fun e : k = x => hn'.1 (e ▸ hx))]; exact h x (List.mem_cons_of_mem _ hx) hc)
    · rw [if_neg hk, if_neg hk]
      exact scn_skip cs r ks l hn'.2 (fun x hx hc => h x (List.mem_cons_of_mem _ hx) hc)
theorem scn_here {cs : List Bool} {p : Nat} {r : List Nat} {l : List Bool} (hc : cs.getD p false = true) (hl : l.getD p false = false) : scn cs (p :: r) l = (some p, l) := by
  unfold scn; rw [if_pos hc, hl]; rfl
/-- The first of which something holds, if any. -/
theorem first_of {q : Nat → Bool} : ∀ (l : List Nat), (∀ k ∈ l, q k = false) ∨ ∃ pre p post, l = pre ++ p :: post ∧ (∀ k ∈ pre, q k = false) ∧ q p = true
  | [] => .inl (by simp)
  | x :: l => by
    cases hx : q x with
    | true => exact .inr ⟨[], x, l, rfl, by simp, hx⟩
    | false =>
      rcases first_of (q := q) l with h | ⟨pre, p, post, rfl, h1, h2⟩
      · exact .inl (fun k hk => by rcases List.mem_cons.1 hk with rfl | hk; exact hx; exact h k hk)
      · exact .inr ⟨x :: pre, p, post, rfl, fun k hk => by rcases List.mem_cons.1 hk with rfl | hk; exact hx; exact h1 k hk, h2⟩
/-- Who goes: the first without ref; else, all having lost theirs, the first; else none. -/
inductive Sw (cs rs : List Bool) (n h : Nat) : Option Nat × List Bool → Prop where
  | bare {pre p post} (e : ring n h = pre ++ p :: post) (h1 : ∀ k ∈ pre, cs.getD k false = true → rs.getD k false = true) (hc : cs.getD p false = true) (hl : rs.getD p false = false) : Sw cs rs n h (some p, clr cs pre rs)
  | all {pre p post} (e : ring n h = pre ++ p :: post) (h0 : ∀ k ∈ ring n h, cs.getD k false = true → rs.getD k false = true) (h1 : ∀ k ∈ pre, cs.getD k false = false) (hc : cs.getD p false = true) : Sw cs rs n h (some p, clr cs (ring n h) rs)
  | no (h0 : ∀ k ∈ ring n h, cs.getD k false = false) : Sw cs rs n h (none, rs)
theorem clr_none {cs : List Bool} : ∀ (ks : List Nat) (l : List Bool), (∀ k ∈ ks, cs.getD k false = false) → clr cs ks l = l
  | [], l, _ => rfl
  | k :: ks, l, h => by
    show clr cs ks (if cs.getD k false then l.set k false else l) = l
    rw [h k (List.mem_cons_self ..)]
    exact clr_none ks l (fun x hx => h x (List.mem_cons_of_mem _ hx))
theorem scn_sw (cs rs : List Bool) (n h : Nat) : Sw cs rs n h (scn cs (spots n h) rs) := by
  rw [spots_ring]
  have hnd := ring_nodup (n := n) (h := h)
  rcases first_of (q := fun k => cs.getD k false && !rs.getD k false) (ring n h) with h1 | ⟨pre, p, post, e, h1, h2⟩
  · have h1' : ∀ k ∈ ring n h, cs.getD k false = true → rs.getD k false = true := fun k hk hc => by
      have := h1 k hk
      simp only [hc, Bool.true_and, Bool.not_eq_false'] at this
      exact this
    rw [scn_skip cs _ _ _ hnd h1']
    rcases first_of (q := fun k => cs.getD k false) (ring n h) with h3 | ⟨pre, p, post, e, h3, h4⟩
    · have hs := scn_skip cs [] (ring n h) (clr cs (ring n h) rs) hnd (fun k hk hc => by rw [h3 k hk] at hc; cases hc)
      rw [List.append_nil] at hs
      rw [hs, clr_none _ rs h3, clr_none _ rs h3]
      exact .no h3
    · have hn2 : pre.Nodup := by rw [e] at hnd; exact (List.nodup_append.1 hnd).1
      have hgoal : scn cs (ring n h) (clr cs (ring n h) rs) = (some p, clr cs (ring n h) rs) := by
        conv => lhs; rw [show scn cs (ring n h) = scn cs (pre ++ p :: post) from by rw [← e]]
        rw [scn_skip cs _ _ _ hn2 (fun k hk hc => by rw [h3 k hk] at hc; cases hc), clr_none pre _ h3]
        exact scn_here h4 (by rw [clr_get, if_pos ⟨by rw [e]; simp, h4⟩])
      rw [hgoal]
      exact .all e h1' h3 h4
  · simp only [Bool.and_eq_true, Bool.not_eq_true'] at h2
    have h1' : ∀ k ∈ pre, cs.getD k false = true → rs.getD k false = true := fun k hk hc => by
      have := h1 k hk
      simp only [hc, Bool.true_and, Bool.not_eq_false'] at this
      exact this
    have hn2 : pre.Nodup ∧ p ∉ pre := by
      rw [e] at hnd
      obtain ⟨a, _, c⟩ := List.nodup_append.1 hnd
      exact ⟨a, fun hm => c p hm p (List.mem_cons_self ..) rfl⟩
    rw [e, List.append_assoc, scn_skip cs _ _ _ hn2.1 h1']
    rw [List.cons_append, scn_here h2.1 (by rw [clr_get, if_neg (fun x => hn2.2 x.1)]; exact h2.2)]
    exact .bare e h1' h2.1 h2.2
theorem sw_sw {cs rs : List Bool} {hand : Int} (hn : 0 < cs.length) (hl : rs.length = cs.length) : Sw cs rs cs.length (hand % (cs.length : Int)).toNat (swM cs rs hand) := by
  unfold swM
  rw [if_neg (by rintro (e | e); subst e; simp at hn; exact e hl)]
  exact scn_sw _ _ _ _
theorem sw_len {cs rs : List Bool} {n h : Nat} {r : Option Nat × List Bool} (s : Sw cs rs n h r) : r.2.length = rs.length := by
  cases s <;> first | exact clr_len _ _ _ | rfl
theorem swM_len {cs rs : List Bool} {hand : Int} (hn : 0 < cs.length) (hl : rs.length = cs.length) : (swM cs rs hand).2.length = cs.length := by rw [sw_len (sw_sw hn hl), hl]

end Go.Proofs.Ythjnfbpimcdndaa
