/- clock: Sweep, in new words; the cache as data -/
import Derived.Test.YtpfbagkjhchojaaS14
import Derived.Test.YtpfbagkjhchojaaClk5
import Derived.Test.YtpfbagkjhchojaaClk4
import Derived.Test.YtpfbagkjhchojaaClk3
import Derived.Test.YtpfbagkjhchojaaFx
set_option linter.unusedVariables false
set_option linter.unusedSimpArgs false
namespace Go.Proofs.Ytpfbagkjhchojaa
open Go.Sep Go.RowKit

/-- The places looked at, from h on, twice round. -/
def spots (n h : Nat) : List Nat := (List.range (2 * n)).map (fun i => (h + i) % n)
/-- Who goes, and the refs that are left. -/
def scn (cs : List Bool) : List Nat → List Bool → Option Nat × List Bool
  | [], l => (none, l)
  | k :: ks, l => if cs.getD k false then (if l.getD k false then scn cs ks (l.set k false) else (some k, l)) else scn cs ks l
theorem scan_scn {cs : List Bool} {n : Nat} : ∀ (ks : List (Fin n)) (l : List Bool), ((scan cs ks l).1.map (·.val), (scan cs ks l).2) = scn cs (ks.map (·.val)) l
  | [], l => rfl
  | k :: ks, l => by
    simp only [scan, scn, List.map_cons, ← List.getD_eq_getElem?_getD]
    split
    · split
      · exact scan_scn ks _
      · rfl
    · exact scan_scn ks l
theorem spots_upto {n h : Nat} (hp : 0 < n) : (upto (spot n h hp) (2 * n)).map (·.val) = spots n h := by
  unfold upto spots spot
  rw [List.map_map]; rfl
/-- Sweep: who goes, which refs are left. -/
def swM (cs rs : List Bool) (hand : Int) : Option Nat × List Bool := if cs = [] ∨ rs.length ≠ cs.length then (none, []) else scn cs (spots cs.length (hand % (cs.length : Int)).toNat) rs
def swP (cs rs : List Bool) (hand : Int) : Int := match (swM cs rs hand).1 with | none => -1 | some k => (k : Int)
def swN (cs rs : List Bool) (hand : Int) : Int := if cs = [] ∨ rs.length ≠ cs.length then 0 else match (swM cs rs hand).1 with | none => hand % (cs.length : Int) | some k => (((k + 1) % cs.length : Nat) : Int)
theorem swept_eq {cs rs : List Bool} {hand : Int} {h : Nat} (hp : 0 < cs.length) (hl : rs.length = cs.length) (hh : hand % (cs.length : Int) = h) (v : Value) :
    swept h (scan cs (upto (spot cs.length h hp) (2 * cs.length)) rs).1 v = .tuple #[.int .i64 (swP cs rs hand), .int .i64 (swN cs rs hand), v] ∧ (scan cs (upto (spot cs.length h hp) (2 * cs.length)) rs).2 = (swM cs rs hand).2 := by
  have h0 : ¬ (cs = [] ∨ rs.length ≠ cs.length) := by rintro (e | e); subst e; simp at hp; exact e hl
  have e := scan_scn (cs := cs) (upto (spot cs.length h hp) (2 * cs.length)) rs
  rw [spots_upto] at e
  have hM : swM cs rs hand = scn cs (spots cs.length h) rs := by
    unfold swM; rw [if_neg h0, hh]; rfl
  unfold swP swN
  rw [if_neg h0, hM, ← e]
  generalize scan cs (upto (spot cs.length h hp) (2 * cs.length)) rs = r
  obtain ⟨o, l⟩ := r
  cases o with
  | none => rw [hh]; exact ⟨rfl, rfl⟩
  | some k => exact ⟨rfl, rfl⟩
theorem sweep_con {P : Program} {f : FuncId}
    (yes : ∀ (B : Nat) (A0 A1 : Option Addr) (c0 c1 : Nat) (cs rs : List Bool) (hand : Int) (n : Nat) (w : World) (hn : n ≤ 65536) (hp : 0 < n) (h0 : cs.length = n) (h1 : rs.length = n) (hw : (Lit.int .i64 hand).wf = true)
      (hr0 : Rd w B A0 (cs.map .bool)) (hr1 : Rd w B A1 (rs.map .bool)) (hB : B ≤ w.heap.size) (h : Nat) (hh : hand % (n : Int) = h),
      Calls P f #[.slice A0 n c0, .slice A1 n c1, .int .i64 hand] w fun e w' => ∃ v, e = .returned (swept h (scan cs (upto (spot n h hp) (2 * n)) rs).1 v) ∧
        w'.ownsRow w.heap.size 4 1 v n ((scan cs (upto (spot n h hp) (2 * n)) rs).2.map .bool) ∧ Below w.heap.size w w')
    (no : ∀ (A0 A1 : Option Addr) (c0 c1 m n : Nat) (hand : Int) (w : World) (hn : n ≤ 65536) (h : n = 0 ∨ m ≠ n),
      Calls P f #[.slice A0 n c0, .slice A1 m c1, .int .i64 hand] w fun e w' => e = .returned (.tuple #[.int .i64 (-1), .int .i64 0, .slice none 0 0]) ∧ Below w.heap.size w w')
    {va vb : Value} (cs rs : List Bool) (hand : Int) (hw : (Lit.int .i64 hand).wf = true) (hn : cs.length ≤ 65536) :
    Con P f [va, vb, .int .i64 hand] (fun w => RdV w va encB cs ∧ RdV w vb encB rs) [] (fun v : Value => .tuple #[.int .i64 (swP cs rs hand), .int .i64 (swN cs rs hand), v]) (fun _ => True) (fun v => [rowE v 4 encB (swM cs rs hand).2]) := by
  intro w hE hH
  obtain ⟨ha, hb⟩ := hE
  obtain ⟨a0, c0, rfl⟩ := rd_sl ha
  obtain ⟨a1, c1, rfl⟩ := rd_sl hb
  by_cases h0 : cs = [] ∨ rs.length ≠ cs.length
  · refine (no a0 a1 c0 c1 rs.length cs.length hand w hn (by rcases h0 with h | h; left; subst h; rfl; exact .inr h)).mono ?_
    rintro e w' ⟨rfl, hbl⟩
    have hM : swM cs rs hand = (none, []) := by unfold swM; rw [if_pos h0]
    refine ⟨.slice none 0 0, ?_, trivial, ?_⟩
    · unfold swP swN; rw [hM, if_pos h0]
    · rw [hM]
      have hk : Keep w [] w' := ⟨hbl.os, hbl.tape, hbl.output, hbl.size, fun b hb' _ => hbl.block b hb'⟩
      have hs : St w [] [] w' := ⟨HP.nil w', fun b hb => (by cases hb), hk⟩
      exact hs.row0 4 encB none
  · have hp : 0 < cs.length := by
      rcases Nat.eq_zero_or_pos cs.length with h | h
      · exact absurd (.inl (List.eq_nil_of_length_eq_zero h)) h0
      · exact h
    have hl : rs.length = cs.length := Classical.byContradiction (fun h => h0 (.inr h))
    have hh : hand % (cs.length : Int) = ((hand % (cs.length : Int)).toNat : Int) := (Int.toNat_of_nonneg (Int.emod_nonneg _ (by omega))).symm
    have fl : ∀ l : List Bool, encB.flat l = l.map .bool := flat_one' encB Value.bool (fun _ => rfl)
    have r0 := rd_of ha
    have r1 := rd_of hb
    rw [fl] at r0 r1
    rw [hl]
    refine (yes w.heap.size a0 a1 c0 c1 cs rs hand cs.length w hn hp rfl hl hw r0 r1 (Nat.le_refl _) _ hh).mono ?_
    rintro e w' ⟨v, rfl, hown, hbl⟩
    obtain ⟨e1, e2⟩ := swept_eq hp hl hh v
    refine ⟨v, by rw [e1], trivial, ?_⟩
    rw [e2, ← fl] at hown
    have hlen : (swM cs rs hand).2.length = cs.length := by rw [← e2, scan_len, hl]
    rw [← hlen] at hown
    exact st_of_own hown hbl

theorem sweep_spec {va vb : Value} (cs rs : List Bool) (hand : Int) (hw : (Lit.int .i64 hand).wf = true) (hn : cs.length ≤ 65536) : Con Try.prog 48 [va, vb, .int .i64 hand] (fun w => RdV w va encB cs ∧ RdV w vb encB rs) [] (fun v : Value => .tuple #[.int .i64 (swP cs rs hand), .int .i64 (swN cs rs hand), v]) (fun _ => True) (fun v => [rowE v 4 encB (swM cs rs hand).2]) :=
  sweep_con (fun B A0 A1 c0 c1 cs rs hand n w hn hp h0 h1 hw hr0 hr1 hB h hh => sweep_yes B A0 A1 c0 c1 cs rs hand n w hn hp h0 h1 hw hr0 hr1 hB h hh) sweep_no cs rs hand hw hn
theorem rsweep_spec {va vb : Value} (cs rs : List Bool) (hand : Int) (hw : (Lit.int .i64 hand).wf = true) (hn : cs.length ≤ 65536) : Con Try.prog 49 [va, vb, .int .i64 hand] (fun w => RdV w va encB cs ∧ RdV w vb encB rs) [] (fun v : Value => .tuple #[.int .i64 (swP cs rs hand), .int .i64 (swN cs rs hand), v]) (fun _ => True) (fun v => [rowE v 4 encB (swM cs rs hand).2]) :=
  sweep_con (fun B A0 A1 c0 c1 cs rs hand n w hn hp h0 h1 hw hr0 hr1 hB h hh => rsweep_yes B A0 A1 c0 c1 cs rs hand n w hn hp h0 h1 hr0 hr1 hB h hh) rsweep_no cs rs hand hw hn
/-! # The cache as data -/
/-- Where the first is that meets p. -/
def fst1 {α : Type} (p : α → Bool) (l : List α) : Option Nat := l.findIdx? p
/-- As the program tells it: -1 of none. -/
def io : Option Nat → Int
  | some k => (k : Int)
  | none => -1
theorem fst1_some {α : Type} {p : α → Bool} {l : List α} {k : Nat} {y : α} (hy : l[k]? = some y) (hp : p y = true) (hn : ∀ z ∈ l.take k, p z = false) : fst1 p l = some k := by
  unfold fst1
  have hk := (List.getElem?_eq_some_iff.1 hy).1
  rw [List.findIdx?_eq_some_iff_getElem]
  refine ⟨hk, by rw [(List.getElem?_eq_some_iff.1 hy).2]; exact hp, fun j hj => ?_⟩
  have := hn l[j] (by rw [List.mem_take_iff_getElem]; exact ⟨j, by omega, rfl⟩)
  simp [this]
theorem fst1_none {α : Type} {p : α → Bool} {l : List α} (hn : ∀ z ∈ l, p z = false) : fst1 p l = none := by
  unfold fst1; rw [List.findIdx?_eq_none_iff]; exact hn
theorem fst1_at {α : Type} {p : α → Bool} {l : List α} {k : Nat} (h : fst1 p l = some k) : ∃ y, l[k]? = some y ∧ p y = true ∧ ∀ j z, j < k → l[j]? = some z → p z = false := by
  unfold fst1 at h
  rw [List.findIdx?_eq_some_iff_getElem] at h
  obtain ⟨hk, hp, hn⟩ := h
  refine ⟨l[k], List.getElem?_eq_getElem hk, hp, fun j z hj hz => ?_⟩
  have := hn j hj
  rw [← (List.getElem?_eq_some_iff.1 hz).2]; simpa using this
theorem fst1_no {α : Type} {p : α → Bool} {l : List α} (h : fst1 p l = none) : ∀ z ∈ l, p z = false := by
  unfold fst1 at h; rw [List.findIdx?_eq_none_iff] at h; exact h
theorem fst1_map {α β : Type} (f : α → β) (p : β → Bool) (l : List α) : fst1 p (l.map f) = fst1 (fun x => p (f x)) l := by
  unfold fst1; rw [List.findIdx?_map]; rfl
theorem take_none {α : Type} {p : α → Bool} {l : List α} {k : Nat} {y : α} (h : ∀ z ∈ l.take k, p z = false) (hy : l[k]? = some y) (hn : p y = false) : ∀ z ∈ l.take (k + 1), p z = false := fun z hz => by
  rw [List.take_add_one, hy] at hz
  rcases List.mem_append.1 hz with hz | hz
  · exact h z hz
  · simp at hz; subst hz; exact hn
theorem io_lt {o : Option Nat} : decide (io o < 0) = o.isNone := by cases o with
  | none => rfl
  | some k => exact decide_eq_false (by simp [io])
theorem io_ge {o : Option Nat} : decide (0 ≤ io o) = o.isSome := by cases o with
  | none => rfl
  | some k => exact decide_eq_true (by simp [io])
theorem map_set1 {α β : Type} (f : α → β) (l : List α) (i : Nat) (x : α) : (l.set i x).map f = (l.map f).set i (f x) := List.map_set ..
theorem wf_n8 {k : Nat} (h : k ≤ 65536) : (Lit.int .i64 (k : Int)).wf = true := by
  simp only [Lit.wf, Bool.and_eq_true, decide_eq_true_eq]
  exact ⟨by show (-2 ^ 63 : Int) ≤ _; omega, by show _ ≤ (2 ^ 63 - 1 : Int); omega⟩
theorem flat_u8 (l : List Int) : (encI .u8).flat l = l.map (.int .u8) := flat_one' (encI .u8) (Value.int .u8) (fun _ => rfl) l
theorem kv_get {m : Nat} (k : Kv m) {j : Nat} (h : j < m) : k.c[1 + j]? = some (.int .u8 (k.b.getD j 0)) := by
  rw [Nat.add_comm]
  have hj : j < k.b.length := by rw [k.len]; exact h
  simp [Kv.c, List.getD_eq_getElem?_getD, hj]
theorem kv_whole {m : Nat} (k : Kv m) : (k.c.drop 0).take (m + 1) = k.c := List.take_of_length_le (by rw [List.drop_zero, Kv.c_len]; exact Nat.le_refl _)
def kv0 (m : Nat) : Kv m := ⟨0, List.replicate m 0, by simp, by decide, fun x h => by rw [(List.mem_replicate.1 h).2]; decide⟩
theorem kinds_app {ks ls : List Sc} {cs ds : List Value} (h1 : Kinds ks cs) (h2 : Kinds ls ds) : Kinds (ks ++ ls) (cs ++ ds) := by
  refine ⟨by rw [List.length_append, List.length_append, h1.1, h2.1], fun i k v hk hv => ?_⟩
  by_cases hi : i < ks.length
  · rw [List.getElem?_append_left hi] at hk
    rw [List.getElem?_append_left (by rw [h1.1]; exact hi)] at hv
    exact h1.2 i k v hk hv
  · rw [List.getElem?_append_right (by omega)] at hk
    rw [List.getElem?_append_right (by rw [h1.1]; omega), h1.1] at hv
    exact h2.2 _ k v hk hv
/-- A slice's value, as a cell. -/
structure Sv where
  a : Option Addr
  n : Nat
  c : Nat
abbrev Sv.v (s : Sv) : Value := .slice s.a s.n s.c
def sv0 : Sv := ⟨none, 0, 0⟩
/-- An entry of a leaf. -/
structure En where
  key : Kv 8
  val : Kv 16
namespace En
def c (e : En) : List Value := e.key.c ++ e.val.c
theorem c_len (e : En) : e.c.length = 26 := by simp [c, Kv.c_len]
theorem one (e : En) : ∀ v ∈ e.c, v.oneCell' = true := fun v hv => by
  rcases List.mem_append.1 hv with hv | hv
  · exact Kv.one _ _ hv
  · exact Kv.one _ _ hv
theorem ext' {a b : En} (h1 : a.key = b.key) (h2 : a.val = b.val) : a = b := by cases a; cases b; simp only at h1 h2; subst h1; subst h2; rfl
theorem c_inj {a b : En} : a.c = b.c ↔ a = b := by
  refine ⟨fun h => ?_, fun h => by rw [h]⟩
  obtain ⟨h1, h2⟩ := List.append_inj h (by rw [Kv.c_len, Kv.c_len])
  exact ext' (Kv.c_inj.1 h1) (Kv.c_inj.1 h2)
def ks : List Sc := Kv.ks 8 ++ Kv.ks 16
theorem kinds (e : En) : Kinds ks e.c := kinds_app (Kv.kinds _) (Kv.kinds _)
theorem key_part (e : En) : (e.c.drop 0).take 9 = e.key.c := List.take_left' (Kv.c_len _)
theorem val_part (e : En) : (e.c.drop 9).take 17 = e.val.c := by
  unfold c
  rw [List.drop_left' (Kv.c_len _)]
  exact List.take_of_length_le (by rw [Kv.c_len]; exact Nat.le_refl _)
theorem whole (e : En) : (e.c.drop 0).take 26 = e.c := List.take_of_length_le (by rw [List.drop_zero, c_len]; exact Nat.le_refl _)
def enc : Enc En := { sz := 26, f := En.c, len := c_len, pos := by decide, one := one }
end En
instance : DecidableEq En := fun a b => if h : a.key = b.key ∧ a.val = b.val then isTrue (En.ext' h.1 h.2) else isFalse (fun e => h (by subst e; exact ⟨rfl, rfl⟩))
/-- A node as it lies in a frame: whether it is a leaf, its entries' slice (and what that holds); all else of it is nil. -/
structure NV where
  leaf : Bool
  e : Sv
  l : List En
abbrev nil0 : Value := .slice none 0 0
def NV.c (v : NV) : List Value := [.bool v.leaf, v.e.v, nil0, nil0, nil0]
def nv0 : NV := ⟨false, sv0, []⟩
def nvL : NV := ⟨true, sv0, []⟩
theorem NV.c_len (v : NV) : v.c.length = 5 := rfl
theorem NV.one (v : NV) : ∀ x ∈ v.c, x.oneCell' = true := fun x hx => by
  simp only [NV.c, List.mem_cons, List.not_mem_nil, or_false] at hx
  rcases hx with rfl | rfl | rfl | rfl | rfl <;> rfl
/-- A frame. -/
structure FC where
  st : Int
  blk : Int
  own : Int
  pins : Int
  ref : Bool
  dirty : Bool
  nv : NV
namespace FC
def c (f : FC) : List Value := [.int .i64 f.st, .int .i64 f.blk, .int .i64 f.own, .int .i64 f.pins, .bool f.ref, .bool f.dirty, .bool f.nv.leaf, f.nv.e.v, nil0, nil0, nil0]
def cR (f : FC) : List Value := [.int .i64 f.st, .int .i64 f.blk, .int .i64 f.pins, .bool f.ref, .bool f.dirty, .bool f.nv.leaf, f.nv.e.v, nil0, nil0, nil0, .int .i64 f.own]
def cA (f : FC) : List Value := [.int .i64 f.st, .int .i64 f.blk, .int .i64 f.pins, .bool f.ref, .bool f.dirty, .bool f.nv.leaf, f.nv.e.v, nil0, nil0, nil0, nil0, .int .i64 (-1), nil0]
theorem one (f : FC) : ∀ x ∈ f.c, x.oneCell' = true := fun x hx => by
  simp only [c, List.mem_cons, List.not_mem_nil, or_false] at hx
  rcases hx with rfl | rfl | rfl | rfl | rfl | rfl | rfl | rfl | rfl | rfl | rfl <;> rfl
theorem oneR (f : FC) : ∀ x ∈ f.cR, x.oneCell' = true := fun x hx => by
  simp only [cR, List.mem_cons, List.not_mem_nil, or_false] at hx
  rcases hx with rfl | rfl | rfl | rfl | rfl | rfl | rfl | rfl | rfl | rfl | rfl <;> rfl
theorem oneA (f : FC) : ∀ x ∈ f.cA, x.oneCell' = true := fun x hx => by
  simp only [cA, List.mem_cons, List.not_mem_nil, or_false] at hx
  rcases hx with rfl | rfl | rfl | rfl | rfl | rfl | rfl | rfl | rfl | rfl | rfl | rfl | rfl <;> rfl
def enc : Enc FC := ⟨11, c, fun _ => rfl, one, by decide⟩
def encR : Enc FC := ⟨11, cR, fun _ => rfl, oneR, by decide⟩
def encA : Enc FC := ⟨13, cA, fun _ => rfl, oneA, by decide⟩
end FC
/-- A task in the line. -/
structure Wn where
  t : Int
  b : Int
  cl : Bool
namespace Wn
def c (w : Wn) : List Value := [.int .i64 w.t, .int .i64 w.b, .bool w.cl]
theorem one (w : Wn) : ∀ x ∈ w.c, x.oneCell' = true := fun x hx => by
  simp only [c, List.mem_cons, List.not_mem_nil, or_false] at hx
  rcases hx with rfl | rfl | rfl <;> rfl
def enc : Enc Wn := ⟨3, c, fun _ => rfl, one, by decide⟩
theorem ext' {a b : Wn} (h1 : a.t = b.t) (h2 : a.b = b.b) (h3 : a.cl = b.cl) : a = b := by cases a; cases b; simp only at h1 h2 h3; subst h1; subst h2; subst h3; rfl
end Wn
instance : DecidableEq Wn := fun a b => if h : a.t = b.t ∧ a.b = b.b ∧ a.cl = b.cl then isTrue (Wn.ext' h.1 h.2.1 h.2.2) else isFalse (fun e => h (by subst e; exact ⟨rfl, rfl, rfl⟩))
/-- A task and a block. -/
def encP : Enc (Int × Int) := ⟨2, fun p => [.int .i64 p.1, .int .i64 p.2], fun _ => rfl, fun a u h => by simp at h; rcases h with rfl | rfl <;> rfl, by decide⟩
/-! ## The cache, as the document has it -/
/-- What is to be seen of a frame (its owner: where it is claimed). -/
structure Vw where
  st : Int
  blk : Int
  own : Int
  pins : Int
  ref : Bool
  dirty : Bool
  leaf : Bool
  es : List En
def vw (f : FC) : Vw := ⟨f.st, f.blk, if f.st = 3 then f.own else 0, f.pins, f.ref, f.dirty, f.nv.leaf, f.nv.l⟩
structure Mo where
  fr : List Vw
  loads : List (Int × Int)
  line : List (Int × Int)
  hand : Int
def isB (b : Int) (f : Vw) : Bool := decide (f.blk = b) && (decide (f.st = 1) || decide (f.st = 2))
def isF (f : Vw) : Bool := decide (f.st = 0)
def isC (t : Int) (f : Vw) : Bool := decide (f.st = 3) && decide (f.own = t)
def isT (t : Int) (q : Int × Int) : Bool := decide (q.1 = t)
def tkB (t : Int) : Bool := decide (0 ≤ t) && decide (t < 8)
def bkB (b : Int) : Bool := decide (0 ≤ b) && decide (b < 256)
def free0 : Vw := ⟨0, -1, 0, 0, false, false, false, []⟩
namespace Mo
def find (M : Mo) (b : Int) : Option Nat := fst1 (isB b) M.fr
def freeI (M : Mo) : Option Nat := fst1 isF M.fr
def stand (M : Mo) (t : Int) : Option Nat := fst1 (isT t) M.line
def waits (M : Mo) (t : Int) : Bool := M.loads.any (isT t)
def turn (M : Mo) (t : Int) : Bool := match M.line with | [] => true | q :: _ => decide (q.1 = t)
/-- The frame that t may take. -/
def takes (M : Mo) (t : Int) : Option Nat := if M.turn t = true then M.freeI else none
def leave (M : Mo) (t : Int) : Mo := { M with line := match M.stand t with | some i => M.line.eraseIdx i | none => M.line }
def ask (M : Mo) (t b : Int) : Mo := { M with line := if (M.stand t).isNone = true then M.line ++ [(t, b)] else M.line }
/-- May a task want this? -/
def mayW (M : Mo) (t b : Int) : Bool := tkB t && !M.waits t && (match M.stand t with | some i => decide (M.line[i]? = some (t, b)) | none => true)
def put (M : Mo) (i : Nat) (f : Vw) : Mo := { M with fr := M.fr.set i f }
def at' (M : Mo) (i : Nat) : Vw := M.fr.getD i free0
def pin (M : Mo) (t b : Int) : Int × Mo :=
  if (bkB b && M.mayW t b) = false then (0, M)
  else match M.find b with
    | some i =>
      let N := (M.put i { M.at' i with pins := (M.at' i).pins + 1, ref := true }).leave t
      if (M.at' i).st = 2 then (1, N) else (2, { N with loads := N.loads ++ [(t, b)] })
    | none => match M.takes t with
      | none => (4, M.ask t b)
      | some k => (3, (M.leave t).put k ⟨1, b, 0, 1, true, false, false, []⟩)
/-- A block's frame in a state. -/
def frI (M : Mo) (b st : Int) : Option Nat := match M.find b with | some i => if (M.at' i).st = st then some i else none | none => none
def told (M : Mo) (b : Int) : List Int := (M.loads.filter (fun q => decide (q.2 = b))).map Prod.fst
def fill (M : Mo) (b : Int) (lf : Bool) (es : List En) : (List Int × Bool) × Mo :=
  match M.frI b 1 with
  | some i => ((M.told b, true), { M.put i { M.at' i with st := 2, leaf := lf, es := es } with loads := M.loads.filter (fun q => !decide (q.2 = b)) })
  | none => (([], false), M)
def claim (M : Mo) (t : Int) : Bool × Mo :=
  if M.mayW t (-1) = false then (false, M)
  else match M.takes t with
    | none => (false, M.ask t (-1))
    | some k => (true, (M.leave t).put k ⟨3, -1, t, 1, false, false, false, []⟩)
def claims (M : Mo) (t : Int) : Nat := M.fr.countP (isC t)
def give (M : Mo) (t : Int) : Mo := { M with fr := M.fr.map (fun f => if isC t f = true then free0 else f) }
def name (M : Mo) (t b : Int) (lf : Bool) (es : List En) : Bool × Mo :=
  match (bkB b && (M.find b).isNone), fst1 (isC t) M.fr with
  | true, some k => (true, M.put k ⟨2, b, 0, 0, true, true, lf, es⟩)
  | _, _ => (false, M)
/-- A block's frame that is Ready. -/
abbrev ready (M : Mo) (b : Int) : Option Nat := M.frI b 2
def unpin (M : Mo) (b : Int) : Bool × Mo :=
  match M.ready b with
  | some i => if (M.at' i).pins = 0 then (false, M) else (true, M.put i { M.at' i with pins := (M.at' i).pins - 1 })
  | none => (false, M)
def node (M : Mo) (b : Int) : (Bool × List En) × Bool := match M.ready b with | some i => (((M.at' i).leaf, (M.at' i).es), true) | none => ((false, []), false)
def setN (M : Mo) (b : Int) (lf : Bool) (es : List En) : Bool × Mo :=
  match M.ready b with
  | some i => (true, M.put i { M.at' i with dirty := true, leaf := lf, es := es })
  | none => (false, M)
def can (M : Mo) : List Bool := M.fr.map (fun f => decide (f.st = 2) && decide (f.pins = 0))
def rfs (M : Mo) : List Bool := M.fr.map Vw.ref
def reref (fr : List Vw) (l : List Bool) : List Vw := (fr.zip l).map (fun p => { p.1 with ref := p.2 })
def evict (M : Mo) : Option Vw × Mo :=
  match (swM M.can M.rfs M.hand).1 with
  | none => (none, M)
  | some k => (some (M.at' k), { M with fr := (reref M.fr (swM M.can M.rfs M.hand).2).set k free0, hand := swN M.can M.rfs M.hand })
def free (M : Mo) : Nat := M.fr.countP isF
def may (M : Mo) (t : Int) : Bool :=
  tkB t && !M.waits t && (match M.stand t with
    | none => true
    | some k => (decide (k = 0) && decide (0 < M.free)) || (M.find (M.line.getD k (0, -1)).2).isSome)
end Mo
/-- What is always so. -/
structure Mo.Ok (M : Mo) (B : Nat) : Prop where
  n1 : 1 ≤ M.fr.length
  n64 : M.fr.length ≤ 64
  st : ∀ f ∈ M.fr, f.st = 0 ∨ f.st = 1 ∨ f.st = 2 ∨ f.st = 3
  none' : ∀ f ∈ M.fr, f.st = 0 ∨ f.st = 3 → f.blk = -1
  blk : ∀ f ∈ M.fr, f.st = 1 ∨ f.st = 2 → 0 ≤ f.blk ∧ f.blk < 256
  own : ∀ f ∈ M.fr, f.st = 3 → 0 ≤ f.own ∧ f.own < 8
  own0 : ∀ f ∈ M.fr, f.st ≠ 3 → f.own = 0
  pins : ∀ f ∈ M.fr, 0 ≤ f.pins ∧ f.pins ≤ (B : Int)
  uni : ∀ (i j : Nat) (f g : Vw), M.fr[i]? = some f → M.fr[j]? = some g → f.st = 1 ∨ f.st = 2 → g.st = 1 ∨ g.st = 2 → f.blk = g.blk → i = j
  ll : M.loads.length ≤ B
  lB : M.line.length ≤ B
  ln : (M.line.map Prod.fst).Nodup
  lb : ∀ q ∈ M.line, -1 ≤ q.2 ∧ q.2 < 256
  lo : ∀ q ∈ M.loads, ∃ f ∈ M.fr, f.st = 1 ∧ f.blk = q.2
  es : ∀ f ∈ M.fr, f.es.length ≤ 1000
  hw : (Lit.int .i64 M.hand).wf = true
  B9 : B ≤ 60000

end Go.Proofs.Ytpfbagkjhchojaa
