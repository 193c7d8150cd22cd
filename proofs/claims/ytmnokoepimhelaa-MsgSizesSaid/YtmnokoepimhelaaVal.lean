
/- Contracts of layer 4 (value). -/
import Derived.Test.YtmnokoepimhelaaBitsC
import Derived.Test.YtmnokoepimhelaaFlat
import Derived.Laws.CopyOwn
set_option linter.unusedVariables false
namespace Go.Proofs.Ytmnokoepimhelaa
open Go.RowKit

/-- A value's cells: its length, its bytes. -/
def val (n : Int) (bs : List Int) : Array Value := (Value.int .i64 n :: bs.map (Value.int .u8)).toArray
/-- The bytes of a value that is made of zs. -/
def pad (zs : List Int) (n : Nat) : List Int := zs ++ List.replicate (n - zs.length) 0
theorem pad_length (zs : List Int) (n : Nat) (h : zs.length ≤ n) : (pad zs n).length = n := by simp [pad]; omega
theorem val_size (n : Int) (bs : List Int) (h : bs.length = 16) : (val n bs).size = 17 := by simp [val, h]
theorem val_one (n : Int) (bs : List Int) : ∀ u ∈ (val n bs).toList, u.oneCell' = true := by
  intro u hu
  simp only [val, List.mem_cons, List.mem_map] at hu
  rcases hu with rfl | ⟨z, _, rfl⟩ <;> rfl

theorem size24 : (Try.prog.info? 28).map (·.size) = some 17 := by kernel_rfl
theorem size5 : (Try.prog.info? 5).map (·.size) = some 1 := by kernel_rfl

/-- A flat value comes back; what was there is as it was. -/
def Gives2 (w : World) (v : Value) (e : Ending) (w' : World) : Prop := e = .returned v ∧ Below w.heap.size w w'

theorem splice_val (zs : List Int) (n : Int) (hl : zs.length ≤ 16) : (splice ((Value.int .i64 n) :: List.replicate 16 (Value.int .u8 0)) 1 (zs.map (Value.int .u8))).toArray = val n (pad zs 16) := by
  unfold splice val pad
  congr 1
  simp only [List.take_succ_cons, List.take_zero, List.length_map, List.cons_append, List.nil_append, List.map_append, List.map_replicate]
  rw [show 1 + zs.length = zs.length + 1 from by omega, List.drop_succ_cons, List.drop_replicate]

theorem min_len (zs : List Int) (n : Nat) (hl : zs.length ≤ n) : (zs.map (Value.int .u8)).length = Nat.min zs.length n := by rw [List.length_map]; exact (Nat.min_eq_left hl).symm
theorem pos_src {w : World} {B : Nat} {A : Option Addr} {xs : List Value} (h : Rd w B A xs) : 0 < xs.length → ∃ ad, A = some ad ∧ ∀ j v, xs[j]? = some v → w.cell? (ad.add j) = some v := by
  intro hp
  obtain ⟨b, off, rfl, _, hc⟩ := h (by intro e; subst e; simp at hp)
  refine ⟨_, rfl, fun j v hj => ?_⟩
  have he : (⟨b, off, none⟩ : Addr).add j = ⟨b, off + j, none⟩ := by unfold Addr.add; split <;> simp_all
  rw [he]; exact hc j v hj
theorem all_one {cs : Array Value} (h : ∀ u ∈ cs.toList, u.oneCell' = true) : cs.all (·.oneCell') = true := by
  rw [Array.all_eq_true_iff_forall_mem]; exact fun v hv => h v (by simpa using hv)

set_option maxHeartbeats 400000 in
theorem of_any (B : Nat) (A : Option Addr) (c : Nat) (zs : List Int) (w : World) (hrd : Rd w B A (zs.map (.int .u8))) (hB : B ≤ w.heap.size) (hl : zs.length ≤ 16) :
    Calls Try.prog 32 #[.slice A zs.length c] w (Gives2 w (.agg (val zs.length (pad zs 16)))) := by
  have HD := Lib.hid hrd
  have HS := Lib.hid (splice_val zs zs.length hl)
  have hsz := Lib.hid (val_size zs.length (pad zs 16) (pad_length zs 16 hl))
  clear hrd
  go_enter Try.func32, Try.ntmps32
  go_wp2_with (first
    | (refine wpList_copy_splice rfl (.tmp 8) (.tmp 9) 52 52 rfl 5 Try.underlying52 size5 _ _ 16 16 zs.length c rfl rfl (w.heap.size + 1) 1 (Value.int .i64 zs.length :: List.replicate 16 (Value.int .u8 0)) 28 (heap_alloc2_new w _ _) (zs.map (Value.int .u8)) (min_len zs 16 hl) (fun h => ⟨rfl, pos_src ((HD.out.alloc hB _).alloc (Nat.le_trans hB (by simp)) _) h⟩) (by simp; omega) (ints_one _ _) (w.heap.size + 1) _ (Below.refl _ _) (Nat.le_refl _) ?_; intro w1 hh hb; rw [HS.out] at hh)
    | (refine wpList_load_row rfl 28 (.tmp 3) rfl (w.heap.size + 1) rfl 28 _ (0, 0) _ hh.out Try.underlying28 rfl (by rw [hsz.out]; exact size24) ?_)
    | (refine wpList_store_row rfl 28 (.tmp 2) (.tmp 11) rfl w.heap.size _ rfl rfl 28 _ ((hb.block w.heap.size (by omega)).trans (heap_alloc2_old w _ _)) (by rw [hsz.out]; exact size24) (by rw [hsz.out]; rfl) (all_one (val_one _ _)) ?_))
  have hz := (hb.block w.heap.size (by omega)).trans (heap_alloc2_old w _ _)
  refine bodyPost_ret (results_cell_row rfl _ _ w.heap.size 28 _ (0, 0) _ rfl (setRow_heap _ _ _ _ _ _ hz) Try.underlying28 rfl (by rw [hsz.out]; exact size24)) rfl ⟨rfl, ?_⟩
  exact below_setRow ((((Below.refl _ _).alloc (Nat.le_refl _) _).alloc (by simp) _).trans (hb.mono (by simp))) (Nat.le_refl _) _
end Go.Proofs.Ytmnokoepimhelaa
