
/- Layer 15: clock.Sweep. -/
import Derived.Test.YtpfbagkjhchojaaClk2
import Derived.Test.YtpfbagkjhchojaaRegIn
import Derived.RangeFuncBox
import Derived.Deep.AppendLies
import Derived.Laws.OwnMore
set_option linter.unusedVariables false
namespace Go.Proofs.Ytpfbagkjhchojaa
open Go.RowKit Go.Shelf
attribute [local go_sem] Oper.semAt_some

/-- Who goes, and the refs that are left, looking at places one behind the other. -/
def scan (can : List Bool) {n : Nat} : List (Fin n) → List Bool → Option (Fin n) × List Bool
  | [], l => (none, l)
  | k :: ks, l => if can[k.val]?.getD false then (if l[k.val]?.getD false then scan can ks (l.set k.val false) else (some k, l)) else scan can ks l

theorem scan_append {can : List Bool} {n : Nat} : ∀ (pre r : List (Fin n)) (ref : List Bool), scan can (pre ++ r) ref = match (scan can pre ref).1 with | some k => (some k, (scan can pre ref).2) | none => scan can r (scan can pre ref).2
  | [], r, ref => rfl
  | k :: ks, r, ref => by
    simp only [List.cons_append, scan]
    split
    · split
      · exact scan_append ks r _
      · rfl
    · exact scan_append ks r _
theorem scan_len {can : List Bool} {n : Nat} : ∀ (pre : List (Fin n)) (ref : List Bool), (scan can pre ref).2.length = ref.length
  | [], ref => rfl
  | k :: ks, ref => by
    simp only [scan]
    split
    · split
      · rw [scan_len ks]; simp
      · rfl
    · exact scan_len ks ref

/-- What Sweep tells, as values. -/
def swept {n : Nat} (h : Nat) : Option (Fin n) → Value → Value
  | none, v => .tuple #[.int .i64 (-1), .int .i64 (h : Int), v]
  | some k, v => .tuple #[.int .i64 ((k.val : Nat) : Int), .int .i64 (((k.val + 1) % n : Nat) : Int), v]

theorem scan_snoc {can : List Bool} {n : Nat} {pre : List (Fin n)} {x : Fin n} {ref l : List Bool} (h : scan can pre ref = (none, l)) : scan can (pre ++ [x]) ref = if can[x.val]?.getD false then (if l[x.val]?.getD false then (none, l.set x.val false) else (some x, l)) else (none, l) := by
  rw [scan_append, h]
  simp only [scan]
theorem upto_split {α : Type} (f : Nat → α) {k N : Nat} (h : k ≤ N) : ∃ r, upto f N = upto f k ++ r := by
  refine ⟨(List.range (N - k)).map (fun j => f (k + j)), ?_⟩
  unfold upto
  rw [show N = k + (N - k) from by omega, List.range_add, List.map_append, List.map_map]
  simp [Function.comp]
theorem boxed_k {A B : World} {row : Option Nat} {k : Nat} {t : TypeId} {v : Value} (h : Boxed A k t v) (hg : A.grownBy B row) (hr : ∀ r, row = some r → ∃ o : Obj, A.heap[r]? = some o ∧ o.isCells = false) : Boxed B k t v :=
  h.kept hg (fun e' => by obtain ⟨o, ho, hc⟩ := hr k e'.symm; rw [show A.heap[k]? = _ from h] at ho; cases ho; cases hc)
theorem owns_k {A B : World} {row : Option Nat} {base g n cap : Nat} {e : TypeId} {size : Nat} {xs : List Value} (h : A.ownsRow base e size (.slice (some ⟨g, 0, none⟩) n cap) n xs) (hg : A.grownBy B row) (hr : ∀ r, row = some r → ∃ o : Obj, A.heap[r]? = some o ∧ o.isCells = false) : B.ownsRow base e size (.slice (some ⟨g, 0, none⟩) n cap) n xs :=
  h.kept hg (.inr (fun e' => by
    obtain ⟨o, ho, hc⟩ := hr g (by rw [← e']; rfl)
    rcases h.2 with ⟨h0, _⟩ | ⟨g', cap', cur, h0, _, hh, _⟩
    · cases h0
    · cases h0
      rw [hh] at ho; cases ho; cases hc))

theorem grown_block {A B : World} {g k : Nat} (h : A.grownBy B (some g)) (hne : k ≠ g) (hk : k < A.heap.size) : B.heap[k]? = A.heap[k]? := h.block k hk (fun e => hne (by cases e; rfl))

set_option maxRecDepth 100000 in
set_option maxHeartbeats 4000000 in
theorem sweep_yes (B : Nat) (A0 A1 : Option Addr) (c0 c1 : Nat) (cs rs : List Bool) (hand : Int) (n : Nat) (w : World) (hn : n ≤ 65536) (hp : 0 < n) (h0 : cs.length = n) (h1 : rs.length = n) (hw : (Lit.int .i64 hand).wf = true)
    (hr0 : Rd w B A0 (cs.map .bool)) (hr1 : Rd w B A1 (rs.map .bool)) (hB : B ≤ w.heap.size) (h : Nat) (hh : hand % (n : Int) = h) :
    Calls Try.prog 48 #[.slice A0 n c0, .slice A1 n c1, .int .i64 hand] w fun e w' => ∃ v, e = .returned (swept h (scan cs (upto (spot n h hp) (2 * n)) rs).1 v) ∧
      w'.ownsRow w.heap.size 4 1 v n ((scan cs (upto (spot n h hp) (2 * n)) rs).2.map .bool) ∧ Below w.heap.size w w' := by
  obtain ⟨a0, off0, rfl, hb0, hc0⟩ := hr0 (by intro h'; rw [List.map_eq_nil_iff] at h'; subst h'; simp at h0; omega)
  have HA := Lib.hid hc0
  clear hc0
  have hlt : h < n := by have := Int.emod_lt_of_pos hand (show (0 : Int) < n by omega); omega
  have k0 : ¬ (n : Int) = 0 := by omega
  have HC := Lib.hid (fun (W : World) (hr : Rd W B A1 (rs.map .bool)) (hB : B ≤ W.heap.size) => h1 ▸ clone_any B A1 c1 rs W hr (by omega) (by omega) hB)
  have HR := Lib.hid (fun W => rest_any hand n W hw hp hn)
  have HR1 := Lib.hid hr1
  have HR0 := Lib.hid hr0
  refine (callsIn_wide (n := 3)).1 ?_
  refine callsIn_of_wp_marks Try.func48 rfl trivial ?_ rfl
  simp only [Try.ntmps48, List.size_toArray, List.length_cons, List.length_nil, Nat.reduceAdd, Nat.reduceSub, Array.replicate_succ, Array.replicate_zero, List.push_toArray, List.append_toArray, List.nil_append, List.cons_append]
  clear hr0 hr1 hw
  have f3 : Boxed (((((w.alloc (.cells #[.slice (some ⟨a0, off0, none⟩) n c0] 49)).alloc (.cells #[.int .i64 0] 3)).alloc (.cells #[.int .i64 0] 3)).alloc (.cells #[.slice none 0 0] 49)).alloc (.cells #[.int .i64 (n : Int)] 3)) w.heap.size 49 (.slice (some ⟨a0, off0, none⟩) n c0) := ((((Boxed.new w _ _).alloc _).alloc _).alloc _).alloc _
  have f6 : Boxed (((((w.alloc (.cells #[.slice (some ⟨a0, off0, none⟩) n c0] 49)).alloc (.cells #[.int .i64 0] 3)).alloc (.cells #[.int .i64 0] 3)).alloc (.cells #[.slice none 0 0] 49)).alloc (.cells #[.int .i64 (n : Int)] 3)) (w.heap.size + 1) 3 (.int .i64 0) := by
    have := Boxed.new (w.alloc (.cells #[.slice (some ⟨a0, off0, none⟩) n c0] 49)) 3 (.int .i64 0)
    rw [World.size_alloc] at this
    exact ((this.alloc _).alloc _).alloc _
  have f7 : Boxed (((((w.alloc (.cells #[.slice (some ⟨a0, off0, none⟩) n c0] 49)).alloc (.cells #[.int .i64 0] 3)).alloc (.cells #[.int .i64 0] 3)).alloc (.cells #[.slice none 0 0] 49)).alloc (.cells #[.int .i64 (n : Int)] 3)) (w.heap.size + 1 + 1) 3 (.int .i64 0) := by
    have := Boxed.new ((w.alloc (.cells #[.slice (some ⟨a0, off0, none⟩) n c0] 49)).alloc (.cells #[.int .i64 0] 3)) 3 (.int .i64 0)
    simp only [World.size_alloc] at this
    exact (this.alloc _).alloc _
  have f8 : Boxed (((((w.alloc (.cells #[.slice (some ⟨a0, off0, none⟩) n c0] 49)).alloc (.cells #[.int .i64 0] 3)).alloc (.cells #[.int .i64 0] 3)).alloc (.cells #[.slice none 0 0] 49)).alloc (.cells #[.int .i64 (n : Int)] 3)) (w.heap.size + 1 + 1 + 1) 49 (.slice none 0 0) := by
    have := Boxed.new (((w.alloc (.cells #[.slice (some ⟨a0, off0, none⟩) n c0] 49)).alloc (.cells #[.int .i64 0] 3)).alloc (.cells #[.int .i64 0] 3)) 49 (.slice none 0 0)
    simp only [World.size_alloc] at this
    exact this.alloc _
  have f9 : Boxed (((((w.alloc (.cells #[.slice (some ⟨a0, off0, none⟩) n c0] 49)).alloc (.cells #[.int .i64 0] 3)).alloc (.cells #[.int .i64 0] 3)).alloc (.cells #[.slice none 0 0] 49)).alloc (.cells #[.int .i64 (n : Int)] 3)) (w.heap.size + 1 + 1 + 1 + 1) 3 (.int .i64 (n : Int)) := by
    have := Boxed.new ((((w.alloc (.cells #[.slice (some ⟨a0, off0, none⟩) n c0] 49)).alloc (.cells #[.int .i64 0] 3)).alloc (.cells #[.int .i64 0] 3)).alloc (.cells #[.slice none 0 0] 49)) 3 (.int .i64 (n : Int))
    simp only [World.size_alloc] at this
    exact this
  have fs : (((((w.alloc (.cells #[.slice (some ⟨a0, off0, none⟩) n c0] 49)).alloc (.cells #[.int .i64 0] 3)).alloc (.cells #[.int .i64 0] 3)).alloc (.cells #[.slice none 0 0] 49)).alloc (.cells #[.int .i64 (n : Int)] 3)).heap.size = w.heap.size + 1 + 1 + 1 + 1 + 1 := by simp only [World.size_alloc]
  have fb : Below w.heap.size w (((((w.alloc (.cells #[.slice (some ⟨a0, off0, none⟩) n c0] 49)).alloc (.cells #[.int .i64 0] 3)).alloc (.cells #[.int .i64 0] 3)).alloc (.cells #[.slice none 0 0] 49)).alloc (.cells #[.int .i64 (n : Int)] 3)) := ((((Below.refl _ w).alloc (Nat.le_refl _) _).alloc (by simp only [World.size_alloc]; omega) _).alloc (by simp only [World.size_alloc]; omega) _).alloc (by simp only [World.size_alloc]; omega) _ |>.alloc (by simp only [World.size_alloc]; omega) _
  have fr1 : Rd (((((w.alloc (.cells #[.slice (some ⟨a0, off0, none⟩) n c0] 49)).alloc (.cells #[.int .i64 0] 3)).alloc (.cells #[.int .i64 0] 3)).alloc (.cells #[.slice none 0 0] 49)).alloc (.cells #[.int .i64 (n : Int)] 3)) B A1 (rs.map .bool) := HR1.out.below (fb.mono hB)
  gi_wp2_with fail
  generalize (((((w.alloc (.cells #[.slice (some ⟨a0, off0, none⟩) n c0] 49)).alloc (.cells #[.int .i64 0] 3)).alloc (.cells #[.int .i64 0] 3)).alloc (.cells #[.slice none 0 0] 49)).alloc (.cells #[.int .i64 (n : Int)] 3)) = W0 at f3 f6 f7 f8 f9 fs fb fr1 ⊢
  refine ⟨trivial, (callsIn_wide.2 (HR.out W0)).mono ?_⟩
  rintro e w' ⟨rfl, rfl⟩
  rw [hh]
  have k3 := Lib.hid f3
  have k6 := Lib.hid f6
  have k7 := Lib.hid f7
  have k9 := Lib.hid f9
  have kb := Lib.hid fb
  have ks := Lib.hid fs
  clear f3 f6 f7 fb
  have HCl := Lib.hid (HC.out W0 fr1 (by omega))
  clear fr1
  gi_wp2_with fail
  refine ⟨trivial, (callsIn_wide.2 HCl.out).mono ?_⟩
  rintro e w1 ⟨v, rfl, hown, hb⟩
  obtain ⟨g, cap, rfl, hbg, hgl⟩ := hown.form hp
  have lt := fun {k : Nat} (hk : k < w.heap.size + 1 + 1 + 1 + 1 + 1) => hb.block k (by rw [ks.out]; exact hk)
  have m3 : Boxed w1 w.heap.size 49 (.slice (some ⟨a0, off0, none⟩) n c0) := (lt (by omega)).trans k3.out
  have m6 : Boxed w1 (w.heap.size + 1) 3 (.int .i64 0) := (lt (by omega)).trans k6.out
  have m7 : Boxed w1 (w.heap.size + 1 + 1) 3 (.int .i64 0) := (lt (by omega)).trans k7.out
  have m8 : Boxed w1 (w.heap.size + 1 + 1 + 1) 49 (.slice none 0 0) := (lt (by omega)).trans f8
  have m9 : Boxed w1 (w.heap.size + 1 + 1 + 1 + 1) 3 (.int .i64 (n : Int)) := (lt (by omega)).trans k9.out
  have zb : Below w.heap.size w w1 := kb.out.trans (hb.mono (by have := ks.out; omega))
  have zs : w.heap.size + 1 + 1 + 1 + 1 + 1 ≤ w1.heap.size := by have := hb.size; have := ks.out; omega
  clear lt f8 f9 hb
  have x8 := m8.cell
  have y8 := m8.frozen
  have p9 := Boxed.other (B' := w.heap.size + 1 + 1 + 1) m9 (by omega) (.slice (some ⟨g, 0, none⟩) n cap)
  have p3 := Boxed.other (B' := w.heap.size + 1 + 1 + 1) m3 (by omega) (.slice (some ⟨g, 0, none⟩) n cap)
  have p6 := Boxed.other (B' := w.heap.size + 1 + 1 + 1) m6 (by omega) (.slice (some ⟨g, 0, none⟩) n cap)
  have p7 := Boxed.other (B' := w.heap.size + 1 + 1 + 1) m7 (by omega) (.slice (some ⟨g, 0, none⟩) n cap)
  have p8 := Boxed.set (.slice (some ⟨g, 0, none⟩) n cap) m8
  have x9 := p9.cell
  have ow := hown.kept (grownBy_setCell' w1 (w.heap.size + 1 + 1 + 1) (.slice (some ⟨g, 0, none⟩) n cap)) (.inr (by have := ks.out; simp [Value.ownBlock]; omega))
  have o3 : Boxed (((w1.setCell ⟨w.heap.size + 1 + 1 + 1, 0, none⟩ (.slice (some ⟨g, 0, none⟩) n cap)).alloc (.cells #[.int .i64 (h : Int)] 3)).alloc (.cells #[.int .i64 (n : Int)] 3)) w.heap.size 49 (.slice (some ⟨a0, off0, none⟩) n c0) := (p3.alloc _).alloc _
  have o6 : Boxed (((w1.setCell ⟨w.heap.size + 1 + 1 + 1, 0, none⟩ (.slice (some ⟨g, 0, none⟩) n cap)).alloc (.cells #[.int .i64 (h : Int)] 3)).alloc (.cells #[.int .i64 (n : Int)] 3)) (w.heap.size + 1) 3 (.int .i64 0) := (p6.alloc _).alloc _
  have o7 : Boxed (((w1.setCell ⟨w.heap.size + 1 + 1 + 1, 0, none⟩ (.slice (some ⟨g, 0, none⟩) n cap)).alloc (.cells #[.int .i64 (h : Int)] 3)).alloc (.cells #[.int .i64 (n : Int)] 3)) (w.heap.size + 1 + 1) 3 (.int .i64 0) := (p7.alloc _).alloc _
  have o8 : Boxed (((w1.setCell ⟨w.heap.size + 1 + 1 + 1, 0, none⟩ (.slice (some ⟨g, 0, none⟩) n cap)).alloc (.cells #[.int .i64 (h : Int)] 3)).alloc (.cells #[.int .i64 (n : Int)] 3)) (w.heap.size + 1 + 1 + 1) 49 (.slice (some ⟨g, 0, none⟩) n cap) := (p8.alloc _).alloc _
  have o9 : Boxed (((w1.setCell ⟨w.heap.size + 1 + 1 + 1, 0, none⟩ (.slice (some ⟨g, 0, none⟩) n cap)).alloc (.cells #[.int .i64 (h : Int)] 3)).alloc (.cells #[.int .i64 (n : Int)] 3)) (w.heap.size + 1 + 1 + 1 + 1) 3 (.int .i64 (n : Int)) := (p9.alloc _).alloc _
  have oh : Boxed (((w1.setCell ⟨w.heap.size + 1 + 1 + 1, 0, none⟩ (.slice (some ⟨g, 0, none⟩) n cap)).alloc (.cells #[.int .i64 (h : Int)] 3)).alloc (.cells #[.int .i64 (n : Int)] 3)) w1.heap.size 3 (.int .i64 (h : Int)) := by
    have := Boxed.new (w1.setCell ⟨w.heap.size + 1 + 1 + 1, 0, none⟩ (.slice (some ⟨g, 0, none⟩) n cap)) 3 (.int .i64 (h : Int))
    simp only [World.size_setCell] at this
    exact this.alloc _
  have on : Boxed (((w1.setCell ⟨w.heap.size + 1 + 1 + 1, 0, none⟩ (.slice (some ⟨g, 0, none⟩) n cap)).alloc (.cells #[.int .i64 (h : Int)] 3)).alloc (.cells #[.int .i64 (n : Int)] 3)) (w1.heap.size + 1) 3 (.int .i64 (n : Int)) := by
    have := Boxed.new ((w1.setCell ⟨w.heap.size + 1 + 1 + 1, 0, none⟩ (.slice (some ⟨g, 0, none⟩) n cap)).alloc (.cells #[.int .i64 (h : Int)] 3)) 3 (.int .i64 (n : Int))
    simp only [World.size_setCell, World.size_alloc] at this
    exact this
  have oo : ((((w1.setCell ⟨w.heap.size + 1 + 1 + 1, 0, none⟩ (.slice (some ⟨g, 0, none⟩) n cap)).alloc (.cells #[.int .i64 (h : Int)] 3)).alloc (.cells #[.int .i64 (n : Int)] 3))).ownsRow w.heap.size 4 1 (.slice (some ⟨g, 0, none⟩) n cap) n (rs.map .bool) := by
    exact own_mono (base' := w.heap.size) ((ow.alloc (.cells #[.int .i64 (h : Int)] 3)).alloc (.cells #[.int .i64 (n : Int)] 3)) (by have := ks.out; omega)
  have os : (((w1.setCell ⟨w.heap.size + 1 + 1 + 1, 0, none⟩ (.slice (some ⟨g, 0, none⟩) n cap)).alloc (.cells #[.int .i64 (h : Int)] 3)).alloc (.cells #[.int .i64 (n : Int)] 3)).heap.size = w1.heap.size + 1 + 1 := by simp only [World.size_setCell, World.size_alloc]
  have ob : Below w.heap.size w (((w1.setCell ⟨w.heap.size + 1 + 1 + 1, 0, none⟩ (.slice (some ⟨g, 0, none⟩) n cap)).alloc (.cells #[.int .i64 (h : Int)] 3)).alloc (.cells #[.int .i64 (n : Int)] 3)) := ((zb.setCell (p := ⟨w.heap.size + 1 + 1 + 1, 0, none⟩) (by simp; omega) _).alloc (by simp; omega) _).alloc (by simp; omega) _
  clear p3 p6 p7 p8 p9 ow hown m3 m6 m7 m8 m9 zb
  gi_wp2_with fail
  refine ⟨trivial, (round_in Fence.wide 2 trivial rfl _ _ _).mono ?_⟩
  rintro e w' ⟨rfl, rfl⟩
  rw [World.size_setCell]
  generalize (((w1.setCell ⟨w.heap.size + 1 + 1 + 1, 0, none⟩ (.slice (some ⟨g, 0, none⟩) n cap)).alloc (.cells #[.int .i64 (h : Int)] 3)).alloc (.cells #[.int .i64 (n : Int)] 3)) = W3 at o3 o6 o7 o8 o9 oh on oo os ob ⊢
  generalize w1.heap.size = bh at oh on os zs hgl ⊢
  clear x8 y8 x9
  gi_wp2_with fail
  refine wpIn_rangeFunc_ownF rfl (by decide) (gf := 92) (lb := #[.pointer (some ⟨bh + 1, 0, none⟩), .pointer (some ⟨bh, 0, none⟩)]) rfl trivial (enters_of Try.func92 (by kernel_rfl) rfl)
    (round_stops Fence.wide 2 trivial rfl (by decide) (bh + 1) bh n h hn hp hlt W3 (by omega) (by omega) on.cell oh.cell) (fun h h' => h.trans h')
    (fun W l o o' hl _ _ _ => ⟨by show (W.putObj l o').heap[bh + 1]? = _; exact World.putObj_heap_other (by omega), by show (W.putObj l o').heap[bh]? = _; exact World.putObj_heap_other (by omega)⟩) (Below.refl _ _) (fun _ => rfl)
    (fun pre W => (∃ lf : List Bool, scan cs pre rs = (none, lf) ∧ Boxed W w.heap.size 49 (.slice (some ⟨a0, off0, none⟩) n c0) ∧ Boxed W (w.heap.size + 1) 3 (.int .i64 0) ∧ Boxed W (w.heap.size + 1 + 1) 3 (.int .i64 0) ∧ Boxed W (w.heap.size + 1 + 1 + 1) 49 (.slice (some ⟨g, 0, none⟩) n cap) ∧ Boxed W (w.heap.size + 1 + 1 + 1 + 1) 3 (.int .i64 (n : Int)) ∧ W.ownsRow w.heap.size 4 1 (.slice (some ⟨g, 0, none⟩) n cap) n (lf.map .bool) ∧ bh + 1 < W.heap.size) ∧ Below w.heap.size w W)
    (fun c pre W => (c = .ret ∧ ∃ (x : Fin n) (lf : List Bool), scan cs pre rs = (some x, lf) ∧ Boxed W (w.heap.size + 1) 3 (.int .i64 ((x.val : Nat) : Int)) ∧ Boxed W (w.heap.size + 1 + 1) 3 (.int .i64 (((x.val + 1) % n : Nat) : Int)) ∧ Boxed W (w.heap.size + 1 + 1 + 1) 49 (.slice (some ⟨g, 0, none⟩) n cap) ∧ W.ownsRow w.heap.size 4 1 (.slice (some ⟨g, 0, none⟩) n cap) n (lf.map .bool)) ∧ Below w.heap.size w W)
    (OwnFrom.and (Own.from (fun s A B row hs hg hr => by obtain ⟨lf, e1, e2, e3, e4, e5, e6, e7, e8⟩ := hs; exact ⟨lf, e1, boxed_k e2 hg hr, boxed_k e3 hg hr, boxed_k e4 hg hr, boxed_k e5 hg hr, boxed_k e6 hg hr, owns_k e7 hg hr, Nat.lt_of_lt_of_le e8 hg.size⟩) _) (ownFrom_below (Nat.le_refl _) (by omega)))
    (fun c => OwnFrom.and (Own.from (fun s A B row hs hg hr => by obtain ⟨e0, x, lf, e1, e2, e3, e4, e5⟩ := hs; exact ⟨e0, x, lf, e1, boxed_k e2 hg hr, boxed_k e3 hg hr, boxed_k e4 hg hr, owns_k e5 hg hr⟩) _) (ownFrom_below (Nat.le_refl _) (by omega)))
    ⟨⟨rs, rfl, o3, o6, o7, o8, o9, oo, by omega⟩, ob⟩
    (fun x => { tmps := #[Value.slice (some ⟨a0, off0, none⟩) n c0, Value.slice A1 n c1, .int .i64 (h : Int), .pointer (some ⟨w.heap.size, 0, none⟩), undef, undef, .pointer (some ⟨w.heap.size + 1, 0, none⟩), .pointer (some ⟨w.heap.size + 1 + 1, 0, none⟩), .pointer (some ⟨w.heap.size + 1 + 1 + 1, 0, none⟩), .pointer (some ⟨w.heap.size + 1 + 1 + 1 + 1, 0, none⟩), .int .i64 ((x.val : Nat) : Int), .slice (some ⟨a0, off0, none⟩) n c0, .int .i64 (n : Int), .int .i64 (n : Int), .bool false, .bool false, .slice A1 n c1, .int .i64 (n : Int), .int .i64 (n : Int), .bool false, .bool false, .int .i64 hand, .int .i64 (n : Int), .int .i64 (h : Int), .slice A1 n c1, .slice (some ⟨g, 0, none⟩) n cap, .int .i64 (h : Int), .int .i64 (n : Int), .func (.func 92) #[] #[.pointer (some ⟨bh + 1, 0, none⟩), .pointer (some ⟨bh, 0, none⟩)], .int .i64 ((x.val : Nat) : Int), undef, undef, undef, undef, undef, undef, undef, undef, undef, undef, undef, undef, undef, undef, undef, undef, undef, undef, undef, undef, undef, undef], defers := [] }) ?assign ?body ?done ?stop
  case assign =>
    intro l x W K hK
    gi_wp2
    exact hK
  case body =>
    rintro l pre x W ⟨⟨lf, hsc, q3, q6, q7, q8, q9, qo, qs⟩, hB⟩ _
    have hx := x.isLt
    have hll : lf.length = n := by have := qo.1; simpa using this
    have ccan : W.cell? ⟨a0, off0 + x.val, none⟩ = some (.bool (cs[x.val]?.getD false)) := (hB.cell (p := ⟨a0, off0 + x.val, none⟩) (by show a0 < w.heap.size; omega)).trans (HA.out x.val _ (by rw [List.getElem?_map, List.getElem?_eq_getElem (by omega)]; rfl))
    have cl : W.cell? ⟨g, x.val, none⟩ = some (.bool (lf[x.val]?.getD false)) := by
      rw [qo.cellAt x.val (by omega), List.getElem?_map, List.getElem?_eq_getElem (by omega)]; rfl
    have fl := qo.frozenAt x.val
    have s := Lib.hid (scan_snoc (x := x) hsc)
    generalize cs[x.val]?.getD false = bc at ccan s
    generalize lf[x.val]?.getD false = bl at cl s
    have y3 := q3.cell
    have y6 := q6.cell
    have y7 := q7.cell
    have y8 := q8.cell
    have y9 := q9.cell
    have z6 := q6.frozen
    have z7 := q7.frozen
    have z8 := q8.frozen
    have hgb : w.heap.size + 1 + 1 + 1 + 1 + 1 ≤ g := by have := ks.out; omega
    have hge : g ≠ bh + 1 ∧ g ≠ bh := by omega
    have hwl := hB.size
    have x0 : (0 : Int) ≤ ((x.val : Nat) : Int) := by omega
    have x1 : ((x.val : Nat) : Int) < (n : Int) := by omega
    have hst := Lib.hid (qo.stored x.val (.bool false))
    clear hsc ob zs oo os
    cases bc with
    | false =>
      gi_wp2
      exact ⟨KeepsOthers.refl _, Kp2.refl _ _ _, ⟨lf, by simpa using s.out, q3, q6, q7, q8, q9, qo, qs⟩, hB⟩
    | true =>
      cases bl with
      | true =>
        gi_wp2
        exact ⟨KeepsOthers.setCell _ _ _, ⟨grown_block hst.out.2 (fun e => hge.1 e.symm) qs, grown_block hst.out.2 (fun e => hge.2 e.symm) (Nat.lt_of_succ_lt qs)⟩, ⟨lf.set x.val false, by simpa using s.out, q3.kept hst.out.2 (by simp; omega), q6.kept hst.out.2 (by simp; omega), q7.kept hst.out.2 (by simp; omega), q8.kept hst.out.2 (by simp; omega), q9.kept hst.out.2 (by simp; omega), by rw [List.map_set]; exact hst.out.1, by simpa using qs⟩, hB.setCell (p := ⟨g, x.val, none⟩) (by simp; omega) _⟩
      | false =>
        have e1 : IntKind.i64.wrap (((x.val : Nat) : Int) + 1) = ((x.val : Nat) : Int) + 1 := by rw [IntKind.wrap_i64]; omega
        have n0 : ¬ (n : Int) = 0 := by omega
        have ht : (((x.val : Nat) : Int) + 1).tmod (n : Int) = (((x.val : Nat) : Int) + 1) % (n : Int) := Int.tmod_eq_emod_of_nonneg (by omega)
        have x2 : (0 : Int) ≤ ((x.val : Nat) : Int) + 1 := by omega
        gi_wp2
        refine region_in (S := fun W' => W'.cell? ⟨w.heap.size + 1 + 1 + 1 + 1, 0, none⟩ = some (.int .i64 (n : Int)) ∧ W'.cell? ⟨w.heap.size + 1 + 1 + 1, 0, none⟩ = some (.slice (some ⟨g, 0, none⟩) n cap)) (by kernel_rfl) (fun h => by obtain ⟨a, w, h⟩ := h; exact h) (by kernel_rfl) ⟨y9, y8⟩ (fun hH => ?_)
        refine take1 (i := 0) (.int .i64 ((x.val : Nat) : Int)) rfl (by kernel_rfl) (by kernel_rfl) (by kernel_rfl) (fun _ _ _ h => h) (by rfl) hH ?_ ?_
        · intro w hSw
          try dsimp only at hSw
          go_simp
        try simp only [Act.put, List.setIfInBounds_toArray, List.set_cons_zero, List.set_cons_succ]
        refine take1 (i := 1) (.int .i64 ((x.val : Nat) : Int)) rfl (by kernel_rfl) (by kernel_rfl) (by kernel_rfl) (fun _ _ _ h => h) (by rfl) hH ?_ ?_
        · intro w hSw
          try dsimp only at hSw
          go_simp
        try simp only [Act.put, List.setIfInBounds_toArray, List.set_cons_zero, List.set_cons_succ]
        refine take1 (i := 2) (.int .i64 (((x.val : Nat) : Int) + 1)) rfl (by kernel_rfl) (by kernel_rfl) (by kernel_rfl) (fun _ _ _ h => h) (by rfl) hH ?_ ?_
        · intro w hSw
          try dsimp only at hSw
          go_simp
        try simp only [Act.put, List.setIfInBounds_toArray, List.set_cons_zero, List.set_cons_succ]
        refine take1 (i := 3) (.int .i64 (n : Int)) rfl (by kernel_rfl) (by kernel_rfl) (by kernel_rfl) (fun _ _ _ h => h) (by rfl) hH ?_ ?_
        · intro w hSw
          try dsimp only at hSw
          go_simp
        try simp only [Act.put, List.setIfInBounds_toArray, List.set_cons_zero, List.set_cons_succ]
        refine take1 (i := 4) (.int .i64 ((((x.val : Nat) : Int) + 1) % (n : Int))) rfl (by kernel_rfl) (by kernel_rfl) (by kernel_rfl) (fun _ _ _ h => h) (by rfl) hH ?_ ?_
        · intro w hSw
          try dsimp only at hSw
          go_simp
        try simp only [Act.put, List.setIfInBounds_toArray, List.set_cons_zero, List.set_cons_succ]
        refine take1 (i := 5) (.slice (some ⟨g, 0, none⟩) n cap) rfl (by kernel_rfl) (by kernel_rfl) (by kernel_rfl) (fun _ _ _ h => h) (by rfl) hH ?_ ?_
        · intro w hSw
          try dsimp only at hSw
          go_simp
        try simp only [Act.put, List.setIfInBounds_toArray, List.set_cons_zero, List.set_cons_succ]
        have y7a : (W.drew.setCell ⟨w.heap.size + 1, 0, none⟩ (.int .i64 ((x.val : Nat) : Int))).cell? ⟨w.heap.size + 1 + 1, 0, none⟩ = some (.int .i64 0) := (World.cell?_setCell_far _ _ _ _ (by simp)).trans y7
        have z7a : (W.drew.setCell ⟨w.heap.size + 1, 0, none⟩ (.int .i64 ((x.val : Nat) : Int))).frozen? ⟨w.heap.size + 1 + 1, 0, none⟩ = false := by rw [World.frozen?_setCell]; exact z7
        have y8a : ((W.drew.setCell ⟨w.heap.size + 1, 0, none⟩ (.int .i64 ((x.val : Nat) : Int))).setCell ⟨w.heap.size + 1 + 1, 0, none⟩ (.int .i64 ((((x.val : Nat) : Int) + 1) % (n : Int)))).cell? ⟨w.heap.size + 1 + 1 + 1, 0, none⟩ = some (.slice (some ⟨g, 0, none⟩) n cap) := (World.cell?_setCell_far _ _ _ _ (by simp)).trans ((World.cell?_setCell_far _ _ _ _ (by simp)).trans y8)
        have z8a : ((W.drew.setCell ⟨w.heap.size + 1, 0, none⟩ (.int .i64 ((x.val : Nat) : Int))).setCell ⟨w.heap.size + 1 + 1, 0, none⟩ (.int .i64 ((((x.val : Nat) : Int) + 1) % (n : Int)))).frozen? ⟨w.heap.size + 1 + 1 + 1, 0, none⟩ = false := by rw [World.frozen?_setCell, World.frozen?_setCell]; exact z8
        have y9a : ((W.drew.setCell ⟨w.heap.size + 1, 0, none⟩ (.int .i64 ((x.val : Nat) : Int))).setCell ⟨w.heap.size + 1 + 1, 0, none⟩ (.int .i64 ((((x.val : Nat) : Int) + 1) % (n : Int)))).cell? ⟨w.heap.size + 1 + 1 + 1 + 1, 0, none⟩ = some (.int .i64 (n : Int)) := (World.cell?_setCell_far _ _ _ _ (by simp)).trans ((World.cell?_setCell_far _ _ _ _ (by simp)).trans y9)
        refine wpAnyH_ready (rs := [6]) (by kernel_rfl) (by simp) ?_
        refine AllReadyH.cons (by rw [List.getElem?_toArray]; rfl) (fun K hK => ?_) AllReadyH.nil
        go_simp
        refine hK.out _ (W.drew.setCell ⟨w.heap.size + 1, 0, none⟩ (.int .i64 ((x.val : Nat) : Int))) ⟨(World.cell?_setCell_far _ _ _ _ (by simp)).trans y9, (World.cell?_setCell_far _ _ _ _ (by simp)).trans y8⟩ (fun hH6 => ?_)
        clear hK K
        try simp only [Act.put, List.setIfInBounds_toArray, List.set_cons_zero, List.set_cons_succ]
        refine wpAnyH_ready (rs := [7]) (by kernel_rfl) (by simp) ?_
        refine AllReadyH.cons (by rw [List.getElem?_toArray]; rfl) (fun K hK => ?_) AllReadyH.nil
        go_simp
        refine hK.out _ ((W.drew.setCell ⟨w.heap.size + 1, 0, none⟩ (.int .i64 ((x.val : Nat) : Int))).setCell ⟨w.heap.size + 1 + 1, 0, none⟩ (.int .i64 ((((x.val : Nat) : Int) + 1) % (n : Int)))) ⟨y9a, y8a⟩ (fun hH7 => ?_)
        clear hK K
        try simp only [Act.put, List.setIfInBounds_toArray, List.set_cons_zero, List.set_cons_succ]
        refine wpAnyH_ready (rs := [8]) (by kernel_rfl) (by simp) ?_
        refine AllReadyH.cons (by rw [List.getElem?_toArray]; rfl) (fun K hK => ?_) AllReadyH.nil
        go_simp
        refine hK.out _ (((W.drew.setCell ⟨w.heap.size + 1, 0, none⟩ (.int .i64 ((x.val : Nat) : Int))).setCell ⟨w.heap.size + 1 + 1, 0, none⟩ (.int .i64 ((((x.val : Nat) : Int) + 1) % (n : Int)))).setCell ⟨w.heap.size + 1 + 1 + 1, 0, none⟩ (.slice (some ⟨g, 0, none⟩) n cap)) ⟨(World.cell?_setCell_far _ _ _ _ (by simp)).trans y9a, World.cell?_setCell_same' _ _ _ (by rw [y8a]; rfl)⟩ (fun hH8 => ?_)
        clear hK K
        try simp only [Act.put, List.setIfInBounds_toArray, List.set_cons_zero, List.set_cons_succ]
        refine wpAnyH_done (by kernel_rfl) ?_ _
        gi_wp2
        have em : ((((x.val : Nat) : Int) + 1) % (n : Int)) = (((x.val + 1) % n : Nat) : Int) := by simp
        rw [em]
        have r6 : Boxed (((W.drew.setCell ⟨w.heap.size + 1, 0, none⟩ (.int .i64 ((x.val : Nat) : Int))).setCell ⟨w.heap.size + 1 + 1, 0, none⟩ (.int .i64 (((x.val + 1) % n : Nat) : Int))).setCell ⟨w.heap.size + 1 + 1 + 1, 0, none⟩ (.slice (some ⟨g, 0, none⟩) n cap)) (w.heap.size + 1) 3 (.int .i64 ((x.val : Nat) : Int)) := ((Boxed.set (.int .i64 ((x.val : Nat) : Int)) (show Boxed W.drew (w.heap.size + 1) 3 (.int .i64 0) from q6)).other (B' := w.heap.size + 1 + 1) (by omega) (.int .i64 (((x.val + 1) % n : Nat) : Int))).other (B' := w.heap.size + 1 + 1 + 1) (by omega) (.slice (some ⟨g, 0, none⟩) n cap)
        have r7 : Boxed (((W.drew.setCell ⟨w.heap.size + 1, 0, none⟩ (.int .i64 ((x.val : Nat) : Int))).setCell ⟨w.heap.size + 1 + 1, 0, none⟩ (.int .i64 (((x.val + 1) % n : Nat) : Int))).setCell ⟨w.heap.size + 1 + 1 + 1, 0, none⟩ (.slice (some ⟨g, 0, none⟩) n cap)) (w.heap.size + 1 + 1) 3 (.int .i64 (((x.val + 1) % n : Nat) : Int)) := (Boxed.set (.int .i64 (((x.val + 1) % n : Nat) : Int)) (Boxed.other (B' := w.heap.size + 1) (show Boxed W.drew (w.heap.size + 1 + 1) 3 (.int .i64 0) from q7) (by omega) (.int .i64 ((x.val : Nat) : Int)))).other (B' := w.heap.size + 1 + 1 + 1) (by omega) (.slice (some ⟨g, 0, none⟩) n cap)
        have r8 : Boxed (((W.drew.setCell ⟨w.heap.size + 1, 0, none⟩ (.int .i64 ((x.val : Nat) : Int))).setCell ⟨w.heap.size + 1 + 1, 0, none⟩ (.int .i64 (((x.val + 1) % n : Nat) : Int))).setCell ⟨w.heap.size + 1 + 1 + 1, 0, none⟩ (.slice (some ⟨g, 0, none⟩) n cap)) (w.heap.size + 1 + 1 + 1) 49 (.slice (some ⟨g, 0, none⟩) n cap) := Boxed.set (.slice (some ⟨g, 0, none⟩) n cap) ((Boxed.other (B' := w.heap.size + 1) (show Boxed W.drew (w.heap.size + 1 + 1 + 1) 49 (.slice (some ⟨g, 0, none⟩) n cap) from q8) (by omega) (.int .i64 ((x.val : Nat) : Int))).other (B' := w.heap.size + 1 + 1) (by omega) (.int .i64 (((x.val + 1) % n : Nat) : Int)))
        have ro := (((show World.ownsRow W.drew w.heap.size 4 1 (.slice (some ⟨g, 0, none⟩) n cap) n (lf.map .bool) from qo).kept (grownBy_setCell' W.drew (w.heap.size + 1) (.int .i64 ((x.val : Nat) : Int))) (.inr (fun e => by simp only [Value.ownBlock, Option.some.injEq] at e; omega))).kept (grownBy_setCell' (W.drew.setCell ⟨w.heap.size + 1, 0, none⟩ (.int .i64 ((x.val : Nat) : Int))) (w.heap.size + 1 + 1) (.int .i64 (((x.val + 1) % n : Nat) : Int))) (.inr (fun e => by simp only [Value.ownBlock, Option.some.injEq] at e; omega))).kept (grownBy_setCell' ((W.drew.setCell ⟨w.heap.size + 1, 0, none⟩ (.int .i64 ((x.val : Nat) : Int))).setCell ⟨w.heap.size + 1 + 1, 0, none⟩ (.int .i64 (((x.val + 1) % n : Nat) : Int))) (w.heap.size + 1 + 1 + 1) (.slice (some ⟨g, 0, none⟩) n cap)) (.inr (fun e => by simp only [Value.ownBlock, Option.some.injEq] at e; omega))
        have rb := ((hB.drew.setCell (p := ⟨w.heap.size + 1, 0, none⟩) (by show w.heap.size ≤ w.heap.size + 1; omega) (.int .i64 ((x.val : Nat) : Int))).setCell (p := ⟨w.heap.size + 1 + 1, 0, none⟩) (by show w.heap.size ≤ w.heap.size + 1 + 1; omega) (.int .i64 (((x.val + 1) % n : Nat) : Int))).setCell (p := ⟨w.heap.size + 1 + 1 + 1, 0, none⟩) (by show w.heap.size ≤ w.heap.size + 1 + 1 + 1; omega) (.slice (some ⟨g, 0, none⟩) n cap)
        have rk : KeepsOthers W (((W.drew.setCell ⟨w.heap.size + 1, 0, none⟩ (.int .i64 ((x.val : Nat) : Int))).setCell ⟨w.heap.size + 1 + 1, 0, none⟩ (.int .i64 (((x.val + 1) % n : Nat) : Int))).setCell ⟨w.heap.size + 1 + 1 + 1, 0, none⟩ (.slice (some ⟨g, 0, none⟩) n cap)) := (((KeepsOthers.drew W).trans (KeepsOthers.setCell _ _ _)).trans (KeepsOthers.setCell _ _ _)).trans (KeepsOthers.setCell _ _ _)
        exact ⟨rk, ⟨rfl, x, lf, by simpa using s.out, r6, r7, r8, ro⟩, rb⟩
  case done =>
    rintro D ys W hD rfl ⟨⟨lf, hsc, q3, q6, q7, q8, q9, qo, qs⟩, hB⟩ hK
    have y6 := q6.cell
    have y7 := q7.cell
    have y8 := q8.cell
    have z6 := q6.frozen
    have z7 := q7.frozen
    have z8 := q8.frozen
    clear HCl HC HR HR1 HR0 HA o3 o6 o7 o8 o9 oh on
    gi_wp2
    gi_region
    have hgb : w.heap.size + 1 + 1 + 1 + 1 + 1 ≤ g := by have := ks.out; omega
    have p6 : Boxed ((((W.setCell ⟨w.heap.size + 1, 0, none⟩ (.int .i64 (-1))).setCell ⟨w.heap.size + 1 + 1, 0, none⟩ (.int .i64 (h : Int))).setCell ⟨w.heap.size + 1 + 1 + 1, 0, none⟩ (.slice (some ⟨g, 0, none⟩) n cap)).drew) (w.heap.size + 1) 3 (.int .i64 (-1)) := ((q6.set (.int .i64 (-1))).other (B' := w.heap.size + 1 + 1) (by omega) (.int .i64 (h : Int))).other (B' := w.heap.size + 1 + 1 + 1) (by omega) (.slice (some ⟨g, 0, none⟩) n cap)
    have p7 : Boxed ((((W.setCell ⟨w.heap.size + 1, 0, none⟩ (.int .i64 (-1))).setCell ⟨w.heap.size + 1 + 1, 0, none⟩ (.int .i64 (h : Int))).setCell ⟨w.heap.size + 1 + 1 + 1, 0, none⟩ (.slice (some ⟨g, 0, none⟩) n cap)).drew) (w.heap.size + 1 + 1) 3 (.int .i64 (h : Int)) := ((q7.other (B' := w.heap.size + 1) (by omega) (.int .i64 (-1))).set (.int .i64 (h : Int))).other (B' := w.heap.size + 1 + 1 + 1) (by omega) (.slice (some ⟨g, 0, none⟩) n cap)
    have p8 : Boxed ((((W.setCell ⟨w.heap.size + 1, 0, none⟩ (.int .i64 (-1))).setCell ⟨w.heap.size + 1 + 1, 0, none⟩ (.int .i64 (h : Int))).setCell ⟨w.heap.size + 1 + 1 + 1, 0, none⟩ (.slice (some ⟨g, 0, none⟩) n cap)).drew) (w.heap.size + 1 + 1 + 1) 49 (.slice (some ⟨g, 0, none⟩) n cap) := ((q8.other (B' := w.heap.size + 1) (by omega) (.int .i64 (-1))).other (B' := w.heap.size + 1 + 1) (by omega) (.int .i64 (h : Int))).set (.slice (some ⟨g, 0, none⟩) n cap)
    have po' := ((qo.kept (grownBy_setCell' W (w.heap.size + 1) (.int .i64 (-1))) (.inr (fun e => by simp only [Value.ownBlock, Option.some.injEq] at e; omega))).kept (grownBy_setCell' (W.setCell ⟨w.heap.size + 1, 0, none⟩ (.int .i64 (-1))) (w.heap.size + 1 + 1) (.int .i64 (h : Int))) (.inr (fun e => by simp only [Value.ownBlock, Option.some.injEq] at e; omega))).kept (grownBy_setCell' ((W.setCell ⟨w.heap.size + 1, 0, none⟩ (.int .i64 (-1))).setCell ⟨w.heap.size + 1 + 1, 0, none⟩ (.int .i64 (h : Int))) (w.heap.size + 1 + 1 + 1) (.slice (some ⟨g, 0, none⟩) n cap)) (.inr (fun e => by simp only [Value.ownBlock, Option.some.injEq] at e; omega))
    have po : World.ownsRow ((((W.setCell ⟨w.heap.size + 1, 0, none⟩ (.int .i64 (-1))).setCell ⟨w.heap.size + 1 + 1, 0, none⟩ (.int .i64 (h : Int))).setCell ⟨w.heap.size + 1 + 1 + 1, 0, none⟩ (.slice (some ⟨g, 0, none⟩) n cap)).drew) w.heap.size 4 1 (.slice (some ⟨g, 0, none⟩) n cap) n (lf.map .bool) := po'
    have hK' : (((((W.setCell ⟨w.heap.size + 1, 0, none⟩ (.int .i64 (-1))).setCell ⟨w.heap.size + 1 + 1, 0, none⟩ (.int .i64 (h : Int))).setCell ⟨w.heap.size + 1 + 1 + 1, 0, none⟩ (.slice (some ⟨g, 0, none⟩) n cap)).drew)).heap[D]? = some (.deferred (some [])) := (KeepsOthers.setCell _ _ _).same D _ ((KeepsOthers.setCell _ _ _).same D _ ((KeepsOthers.setCell W ⟨w.heap.size + 1, 0, none⟩ (.int .i64 (-1))).same D _ hK rfl) rfl) rfl
    have pb : Below w.heap.size w ((((W.setCell ⟨w.heap.size + 1, 0, none⟩ (.int .i64 (-1))).setCell ⟨w.heap.size + 1 + 1, 0, none⟩ (.int .i64 (h : Int))).setCell ⟨w.heap.size + 1 + 1 + 1, 0, none⟩ (.slice (some ⟨g, 0, none⟩) n cap)).drew) := (((hB.setCell (p := ⟨w.heap.size + 1, 0, none⟩) (by simp; try omega) _).setCell (p := ⟨w.heap.size + 1 + 1, 0, none⟩) (by simp; try omega) _).setCell (p := ⟨w.heap.size + 1 + 1 + 1, 0, none⟩) (by simp; try omega) _).drew
    gi_wp2
    generalize ((((W.setCell ⟨w.heap.size + 1, 0, none⟩ (.int .i64 (-1))).setCell ⟨w.heap.size + 1 + 1, 0, none⟩ (.int .i64 (h : Int))).setCell ⟨w.heap.size + 1 + 1 + 1, 0, none⟩ (.slice (some ⟨g, 0, none⟩) n cap)).drew) = W' at p6 p7 p8 po hK' pb ⊢
    refine ⟨by simp, .inl ⟨_, _, rfl, run_takeDeferred hK', ?_⟩⟩
    have kr : ∀ r : Nat, some D = some r → ∃ o : Obj, W'.heap[r]? = some o ∧ o.isCells = false := fun r e => by cases e; exact ⟨_, hK', rfl⟩
    have c6 := (boxed_k p6 (grownBy_putObj' _ D (.deferred none)) kr).cell
    have c7 := (boxed_k p7 (grownBy_putObj' _ D (.deferred none)) kr).cell
    have c8 := (boxed_k p8 (grownBy_putObj' _ D (.deferred none)) kr).cell
    have co := owns_k po (grownBy_putObj' _ D (.deferred none)) kr
    rw [hsc]
    refine ⟨swept h (none : Option (Fin n)) (.slice (some ⟨g, 0, none⟩) n cap), ?_, _, rfl, co, pb.trans (belowK_b (w := w) (Nat.le_refl _) W' D _ _ (by omega) hK' rfl rfl)⟩
    simp [results, Try.f48, swept, go_sem, c6, c7, c8]
  case stop =>
    rintro D c pre W hD ⟨k, hk, rfl⟩ ⟨⟨rfl, x, lf, hsc, q6, q7, q8, qo⟩, hB⟩ hK
    obtain ⟨r, hr⟩ := upto_split (spot n h hp) hk
    have hs : scan cs (upto (spot n h hp) (2 * n)) rs = (some x, lf) := by rw [hr, scan_append, hsc]
    gi_wp2
    refine ⟨by simp, .inl ⟨_, _, rfl, run_takeDeferred hK, ?_⟩⟩
    have kr : ∀ r : Nat, some D = some r → ∃ o : Obj, W.heap[r]? = some o ∧ o.isCells = false := fun r e => by cases e; exact ⟨_, hK, rfl⟩
    have c6 := (boxed_k q6 (grownBy_putObj' _ D (.deferred none)) kr).cell
    have c7 := (boxed_k q7 (grownBy_putObj' _ D (.deferred none)) kr).cell
    have c8 := (boxed_k q8 (grownBy_putObj' _ D (.deferred none)) kr).cell
    have co := owns_k qo (grownBy_putObj' _ D (.deferred none)) kr
    rw [hs]
    refine ⟨swept h (some x) (.slice (some ⟨g, 0, none⟩) n cap), ?_, _, rfl, co, hB.trans (belowK_b (w := w) (Nat.le_refl _) W D _ _ (by omega) hK rfl rfl)⟩
    simp [results, Try.f48, swept, go_sem, c6, c7, c8]
end Go.Proofs.Ytpfbagkjhchojaa
