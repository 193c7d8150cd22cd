
/- Contracts of layer 4's references, the third part: Of. -/
import Derived.Test.YtmnokoepimhelaaVal6
set_option linter.unusedVariables false
namespace Go.Proofs.Ytmnokoepimhelaa
open Go.RowKit Go.ChangeShapes Go.ChangeAt Go.WideShapes

set_option maxHeartbeats 400000 in
theorem rof_big (s : ByteArray) (w : World) (h : 16 < s.size) :
    Calls Try.prog 29 #[.string s] w (Gives2 w (.tuple #[.agg (val 0 val0), .int .i64 2])) := by
  have h' : (16 : Int) < (s.size : Int) := by omega
  have HZ := Lib.hid (fun o => heap_alloc2_old w o (Obj.cells (val 0 val0) 28))
  have HG := Lib.hid (fun o => heap_alloc2_new w o (Obj.cells (val 0 val0) 28))
  have hsz : Hid ((val 0 val0).size = 17) := Lib.hid (by decide)
  clear h
  go_enter Try.func29, Try.ntmps29
  go_wp2_with (first
    | (refine wpList_load_row rfl 28 (.tmp 4) rfl (w.heap.size + 1) rfl 28 (val 0 val0) (0, 0) _ (HG.out _) Try.underlying28 rfl (by rw [hsz.out]; exact size24) ?_)
    | (refine wpList_store_row rfl 28 (.tmp 2) (.tmp 10) rfl w.heap.size (val 0 val0) rfl rfl 28 _ (HZ.out _) (by rw [hsz.out]; exact size24) (by rw [hsz.out]; rfl) (all_one (val_one _ _)) ?_))
  refine bodyPost_ret (results_row_tmp rfl _ _ w.heap.size 28 (val 0 val0) (0, 0) _ rfl (setRow_heap _ _ _ _ _ _ (HZ.out _)) Try.underlying28 rfl (by kernel_rfl)) rfl ⟨rfl, ?_⟩
  exact below_setRow (((Below.refl w.heap.size w).alloc (Nat.le_refl _) _).alloc (by simp) _) (Nat.le_refl _) _

theorem byt_at (s : ByteArray) (j : Nat) (hj : j < s.size) : (byt s)[j]'(by rw [byt_length]; exact hj) = ((s[j]'hj).toNat : Int) := by
  unfold byt
  rw [List.getElem_map, Array.getElem_toList]
  rfl

set_option maxHeartbeats 1000000 in
theorem rof_ok (s : ByteArray) (w : World) (h : s.size ≤ 16) :
    Calls Try.prog 29 #[.string s] w (Gives2 w (.tuple #[.agg (val s.size (pad (byt s) 16)), .int .i64 0])) := by
  have h' : (s.size : Int) ≤ 16 := by omega
  have hsz := Lib.hid (val_size s.size (pad (byt s) 16) (pad_length _ _ (by rw [byt_length]; exact h)))
  have HL := Lib.hid (byt_length s)
  have HZ := Lib.hid (fun (o : Obj) => heap_alloc2_old w (Obj.cells (val 0 val0) 28) o)
  have HG := Lib.hid (fun (o : Obj) => heap_alloc2_new w o (Obj.cells (val s.size val0) 28))
  go_enter Try.func29, Try.ntmps29
  go_wp2
  go_loopw [5] (fun i wr => ∃ j : Nat, j ≤ s.size ∧ i = .int .i64 j ∧ Hid (wr.heap[w.heap.size]? = some (.cells (val 0 val0) 28 (0, 0))) ∧ Hid (wr.heap[w.heap.size + 1]? = some (.cells (val s.size (pre (byt s) j)) 28 (0, 0))) ∧ Hid (Below w.heap.size w wr)) (fun i _ => s.size - (intOf i).toNat)
  case atStart => exact ⟨0, Nat.zero_le _, rfl, Lib.hid (HZ.out _), Lib.hid (by rw [pre_zero]; exact HG.out _), Lib.hid (((Below.refl w.heap.size w).alloc (Nat.le_refl _) _).alloc (by simp) _)⟩
  case round =>
    obtain ⟨j, hj, rfl, hz, hg, hb⟩ := hrel
    by_cases hlt : j < s.size
    · have hjl : j < (byt s).length := by rw [HL.out]; exact hlt
      have HS := Lib.hid (pre_set (byt s) j hjl (by rw [HL.out]; exact h))
      have hset := Lib.hid (heap_setCell_same wr (w.heap.size + 1) (1 + j) _ 28 (.int .u8 (byt s)[j]) hg.out)
      rw [val_set, HS.out, byt_at s j hlt] at hset
      have hcg := cell_val hg.out j (by rw [pre_length _ _ (by rw [HL.out]; omega) (by rw [HL.out]; exact h)]; omega)
      have hfg := frozen_of_row wr (w.heap.size + 1) (1 + j) _ 28 hg.out
      go_wp2
      go_roundw
      case rel => exact ⟨j + 1, by omega, by go_num, Lib.hid ((heap_setCell_other wr _ _ _ (by simp)).trans hz.out), hset, Lib.hid (hb.out.setCell (p := ⟨w.heap.size + 1, 1 + j, none⟩) (by simp) _)⟩
      case measure => simp [intOf]; omega
    · have : j = s.size := by omega
      subst this
      rw [show pre (byt s) s.size = pad (byt s) 16 from by have := pre_all (byt s); rw [HL.out] at this; exact this] at hg
      go_wp2_with (first
        | (refine wpList_load_row rfl 28 (.tmp 4) rfl (w.heap.size + 1) rfl 28 _ (0, 0) _ hg.out Try.underlying28 rfl (by rw [hsz.out]; exact size24) ?_)
        | (refine wpList_store_row rfl 28 (.tmp 2) (.tmp 26) rfl w.heap.size _ rfl rfl 28 _ hz.out (by rw [hsz.out]; exact size24) (by rw [hsz.out]; rfl) (all_one (val_one _ _)) ?_))
      refine bodyPost_ret (results_row_tmp rfl _ _ w.heap.size 28 _ (0, 0) _ rfl (setRow_heap _ _ _ _ _ _ hz.out) Try.underlying28 rfl (by rw [hsz.out]; exact size24)) rfl ⟨rfl, ?_⟩
      exact below_setRow hb.out (Nat.le_refl _) _
end Go.Proofs.Ytmnokoepimhelaa
