
/- Contracts of layer 4 (value), the second part. -/
import Derived.Test.YtmnokoepimhelaaVal
import Derived.Deep.RegionHeld3
import Derived.Deep.RegionWith
set_option linter.unusedVariables false
namespace Go.Proofs.Ytmnokoepimhelaa
open Go.RowKit

theorem val_0 (n : Int) (bs : List Int) : (val n bs)[0]? = some (.int .i64 n) := by simp [val]

set_option maxHeartbeats 400000 in
theorem check_lo (n : Int) (bs : List Int) (w : World) (h : n < 0) :
    Calls Try.prog 24 #[.agg (val n bs)] w (Gives2 w (.bool false)) := by
  have v0 := val_0 n bs
  have hd : decide (0 ≤ n) = false := by simp; omega
  clear h
  go_enter Try.func24, Try.ntmps24
  go_wp2
  go_quiet (fail)
  go_wp2
  go_ret
  exact ⟨rfl, below_drewN ((Below.refl _ _).alloc (Nat.le_refl _) _) _⟩

set_option maxHeartbeats 400000 in
theorem check_hi (n : Int) (bs : List Int) (w : World) (h0 : 0 ≤ n) (h : 16 < n) :
    Calls Try.prog 24 #[.agg (val n bs)] w (Gives2 w (.bool false)) := by
  have v0 := val_0 n bs
  have hd : decide (n ≤ 16) = false := by simp; omega
  clear h
  go_enter Try.func24, Try.ntmps24
  go_wp2
  go_quiet (fail)
  go_wp2
  go_ret
  exact ⟨rfl, below_drewN ((Below.refl _ _).alloc (Nat.le_refl _) _) _⟩

theorem Rd.val_take {W : World} {g : Nat} {t : TypeId} {n : Int} {bs : List Int} (k : Nat) (h : W.heap[g]? = some (.cells (val n bs) t (0, 0))) : Rd W (g + 1) (some ⟨g, 1, none⟩) ((bs.take k).map (.int .u8)) := by
  intro _
  refine ⟨g, 1, rfl, by omega, fun j u hu => ?_⟩
  rw [cell_of_row W g (1 + j) _ t (0, 0) h]
  rw [List.getElem?_map, List.getElem?_take] at hu
  split at hu
  · simp only [val, List.getElem?_toArray, Nat.add_comm 1 j, List.getElem?_cons_succ, List.getElem?_map]
    exact hu
  · simp at hu

theorem of_take {W : World} {g : Nat} {t : TypeId} {n : Int} {bs : List Int} (k c : Nat) (hk : k ≤ 16) (hb : bs.length = 16) (hg : g < W.heap.size) (h : W.heap[g]? = some (.cells (val n bs) t (0, 0))) :
    Calls Try.prog 32 #[.slice (some ⟨g, 1, none⟩) k c] W (Gives2 W (.agg (val k (pad (bs.take k) 16)))) := by
  have hl : (bs.take k).length = k := by rw [List.length_take]; omega
  have C := of_any (g + 1) (some ⟨g, 1, none⟩) c (bs.take k) W (Rd.val_take k h) (by omega) (by omega)
  rw [hl] at C
  exact C

theorem load24 (w : World) (ρ : Operand → Value) (d : Option Tmp) (x : Operand) (ty : TypeId) (pos : String) (af : Array Edge) (gd : Option (Nat × Bool)) :
    (execOp ρ { dst := d, op := .load 28 x, type := ty, pos := pos, after := af, guard := gd }).run Try.prog w = loadOf Try.prog 28 17 w (ρ x) := exec_load_flat Try.underlying28 rfl size24 w ρ _ x rfl
attribute [local go_sem ↓] load24
attribute [local go_sem] rowOf loadOf

theorem kinds_val (n : Int) (bs : List Int) (hn : (Lit.int .i64 n).wf = true) (hb : bs.length = 16) (hw : ∀ b ∈ bs, (Lit.int .u8 b).wf = true) : Kinds (Sc.i .i64 :: List.replicate 16 (Sc.i .u8)) (val n bs).toList := by
  refine ⟨by simp [val, hb], fun j k v h1 h2 => ?_⟩
  cases j with
  | zero => simp [val] at h1 h2; subst h1 h2; exact ⟨n, rfl, hn⟩
  | succ j =>
    simp only [List.getElem?_cons_succ, List.getElem?_replicate] at h1
    split at h1
    · simp only [Option.some.injEq] at h1
      subst h1
      simp only [val, List.getElem?_cons_succ, List.getElem?_map, Option.map_eq_some_iff] at h2
      obtain ⟨z, hz, rfl⟩ := h2
      exact ⟨z, rfl, hw z (List.mem_of_getElem? hz)⟩
    · simp at h1
theorem map_int_inj (cs : List Int) : ∀ bs : List Int, cs.map (Value.int .u8) = bs.map (Value.int .u8) → cs = bs := by
  induction cs with
  | nil => intro bs h; cases bs with
    | nil => rfl
    | cons b bs => simp at h
  | cons a cs ih => intro bs h; cases bs with
    | nil => simp at h
    | cons b bs =>
      simp only [List.map_cons, List.cons.injEq, Value.int.injEq, true_and] at h
      rw [h.1, ih bs h.2]
theorem val_inj {n m : Int} {cs bs : List Int} (h : val n cs = val m bs) : n = m ∧ cs = bs := by
  unfold val at h
  have h := congrArg Array.toList h
  simp only [List.cons.injEq, Value.int.injEq, true_and] at h
  exact ⟨h.1, map_int_inj cs bs h.2⟩
/-- Two values, held against each other. -/
theorem eq_val (n m : Int) (cs bs : List Int) (hn : (Lit.int .i64 n).wf = true) (hm : (Lit.int .i64 m).wf = true) (ha : cs.length = 16) (hb : bs.length = 16) (wa : ∀ b ∈ cs, (Lit.int .u8 b).wf = true) (wb : ∀ b ∈ bs, (Lit.int .u8 b).wf = true) (W : World) :
    (Op.equalIn 10000 28 (.agg (val n cs)) (.agg (val m bs))).run Try.prog W = .ok (decide (n = m ∧ cs = bs)) W := by
  obtain ⟨r, h1, h2⟩ := run_equal_flat (P := Try.prog) (w := W) (n := 3) (t := 28) (by kernel_rfl) (by kernel_rfl) (by decide) (by kernel_rfl) (by kernel_rfl) (kinds_val n cs hn ha wa) (kinds_val m bs hm hb wb)
  rw [h1]
  congr 1
  rw [Bool.eq_iff_iff, h2]
  simp only [decide_eq_true_eq]
  exact ⟨fun h => val_inj h, fun h => by rw [h.1, h.2]⟩
theorem wf_u8 {z : Int} (h0 : 0 ≤ z) (h1 : z < 256) : (Lit.int .u8 z).wf = true := by simp [Lit.wf, IntKind.min, IntKind.max, IntKind.signed, IntKind.bits]; omega
theorem wf_nat16 {k : Nat} (h : k ≤ 16) : (Lit.int .i64 (k : Int)).wf = true := by simp [Lit.wf, IntKind.min, IntKind.max, IntKind.signed, IntKind.bits]; omega
theorem wf_pad {zs : List Int} (n : Nat) (h : ∀ b ∈ zs, (Lit.int .u8 b).wf = true) : ∀ b ∈ pad zs n, (Lit.int .u8 b).wf = true := by
  intro b hb
  rcases List.mem_append.1 hb with hb | hb
  · exact h b hb
  · rw [(List.mem_replicate.1 hb).2]; decide

set_option maxHeartbeats 400000 in
theorem check_mid (k : Nat) (bs : List Int) (w : World) (h : k ≤ 16) (hb : bs.length = 16) (wb : ∀ b ∈ bs, (Lit.int .u8 b).wf = true) :
    Calls Try.prog 24 #[.agg (val k bs)] w (Gives2 w (.bool (decide (pad (bs.take k) 16 = bs)))) := by
  have v0 := val_0 k bs
  have h' : (k : Int) ≤ 16 := by omega
  have heq := eq_val k k (pad (bs.take k) 16) bs (wf_nat16 h) (wf_nat16 h) (pad_length _ _ (by simp; omega)) hb (wf_pad 16 (fun b hb => wb b (List.mem_of_mem_take hb))) wb
  simp only [true_and] at heq
  obtain ⟨r, hr⟩ : ∃ r, decide (pad (bs.take k) 16 = bs) = r := ⟨_, rfl⟩
  rw [hr] at heq ⊢
  clear hr
  have hsz := val_size k bs hb
  go_enter Try.func24, Try.ntmps24
  go_wp2
  obtain ⟨w1, hw1⟩ : ∃ w1, w1 = w.alloc (Obj.cells (val k bs) 28) := ⟨_, rfl⟩
  have hg := heap_alloc_new w (Obj.cells (val k bs) 28)
  have hlt : w.heap.size < w1.heap.size := by rw [hw1]; simp
  rw [← hw1] at hg ⊢
  have hc : w1.cell? ⟨w.heap.size, 0, none⟩ = some (.int .i64 k) := by rw [cell_of_row w1 _ 0 _ _ _ hg]; exact v0
  have HB1 : Hid (Below w.heap.size w w1) := Lib.hid (by rw [hw1]; exact (Below.refl _ _).alloc (Nat.le_refl _) _)
  clear hw1
  go_region_held3 (fun W => W.cell? ⟨w.heap.size, 0, none⟩ = some (.int .i64 k) ∧ W.heap[w.heap.size]? = some (.cells (val k bs) 28 (0, 0)) ∧ Below w1.heap.size w1 W) (first | exact ⟨hc2, hg2, hb2⟩ | exact ⟨hc, hg, (Below.refl _ _).drew⟩)
    (first | (go_at_call 32; refine (of_take (W := w1.drew) (g := w.heap.size) (t := 28) (n := k) (bs := bs) k _ h hb hlt hg).mono ?_; rintro e w2 ⟨rfl, hb1⟩; have hb2 : Below w1.heap.size w1 w2 := (Below.refl _ _).drew.trans hb1; have hg2 := (hb2.block w.heap.size hlt).trans hg; have hc2 := (hb2.cell (p := ⟨w.heap.size, 0, none⟩) hlt).trans hc))
  go_wp2
  go_ret
  exact ⟨rfl, HB1.out.trans (hb2.mono HB1.out.size)⟩
end Go.Proofs.Ytmnokoepimhelaa
