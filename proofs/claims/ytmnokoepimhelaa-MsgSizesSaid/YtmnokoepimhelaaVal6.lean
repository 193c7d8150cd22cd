
/- Contracts of layer 4's references, the second part: From, Plus, Of. -/
import Derived.Test.YtmnokoepimhelaaVal5
set_option linter.unusedVariables false
namespace Go.Proofs.Ytmnokoepimhelaa
open Go.RowKit Go.ChangeShapes Go.ChangeAt Go.WideShapes

/-- The first j of zs, then zeros. -/
def pre (zs : List Int) (j : Nat) : List Int := zs.take j ++ List.replicate (16 - j) 0
theorem pre_length (zs : List Int) (j : Nat) (h : j ≤ zs.length) (h2 : zs.length ≤ 16) : (pre zs j).length = 16 := by simp [pre]; omega
theorem pre_zero (zs : List Int) : pre zs 0 = val0 := by simp [pre, val0]
theorem pre_all (zs : List Int) : pre zs zs.length = pad zs 16 := by simp [pre, pad]
theorem pre_set (zs : List Int) (j : Nat) (h : j < zs.length) (h2 : zs.length ≤ 16) : (pre zs j).set j zs[j] = pre zs (j + 1) := by
  unfold pre
  rw [List.set_append_right _ _ (by simp; omega), List.length_take, show j - min j zs.length = 0 from by omega, List.take_succ_eq_append_getElem h,
    show 16 - j = (16 - (j + 1)) + 1 from by omega, List.replicate_succ, List.set_cons_zero, List.append_assoc]
  rfl

theorem cell_val {W : World} {g : Nat} {n : Int} {bs : List Int} {t : TypeId} (h : W.heap[g]? = some (.cells (val n bs) t (0, 0))) (j : Nat) (hj : j < bs.length) : W.cell? ⟨g, 1 + j, none⟩ = some (.int .u8 (bs[j]?.getD 0)) := by
  rw [cell_of_row W g _ _ _ _ h]; exact val_at n bs j hj

set_option maxHeartbeats 1000000 in
theorem rfrom_any (n : Int) (w : World) (h0 : 0 ≤ n) (h1 : n < 18446744073709551616) :
    Calls Try.prog 22 #[.int .u64 n] w (Gives2 w (.agg (val 8 (from_ n)))) := by
  have HP := Lib.hid (fun W => rput_yes 0 none 0 [] n 8 W Rd.nil (Nat.zero_le _) (by decide) (by decide) (by decide) h0 h1)
  have hsz := Lib.hid (val_size 8 (from_ n) (from_length n))
  clear h1
  go_enter Try.func22, Try.ntmps22
  go_wp2_with fail
  refine (HP.out _).mono ?_
  rintro e w1 ⟨v, rfl, own, hb1⟩
  rw [List.nil_append, show ([] : List Int).length + 8 = (le n 8).length from by rw [le_length]; rfl] at own
  have hle : (le n 8).length = 8 := le_length 8 n
  obtain ⟨A1, c1, rfl, _, _, rd, hA⟩ := Rd.of_own own
  obtain ⟨b, off, rfl, hbl, hcb⟩ := rd (by rw [Ne, List.map_eq_nil_iff]; intro e; rw [e] at hle; simp at hle)
  have hbge : w.heap.size + 2 ≤ b := by have := hA b rfl; simp at this; omega
  have HZ : Hid (w1.heap[w.heap.size]? = some (.cells (val 0 val0) 28 (0, 0))) := Lib.hid ((hb1.block w.heap.size (by simp; omega)).trans (heap_alloc2_old w _ _))
  have HG : Hid (w1.heap[w.heap.size + 1]? = some (.cells (val 8 (pre (le n 8) 0)) 28 (0, 0))) := by rw [pre_zero]; exact Lib.hid ((hb1.block (w.heap.size + 1) (by simp)).trans (heap_alloc2_new w _ _))
  have HB := Lib.hid ((((Below.refl w.heap.size w).alloc (Nat.le_refl _) _).alloc (by simp) _).trans (hb1.mono (by simp; omega)))
  have HC := Lib.hid hcb
  have HL := Lib.hid hle
  rw [hle]
  clear own rd hb1 hA hcb hle
  go_wp2_with fail
  go_loopw [5] (fun i wr => ∃ j : Nat, j ≤ 8 ∧ i = .int .i64 j ∧ Hid (wr.heap[w.heap.size]? = some (.cells (val 0 val0) 28 (0, 0))) ∧ Hid (wr.heap[w.heap.size + 1]? = some (.cells (val 8 (pre (le n 8) j)) 28 (0, 0))) ∧ Hid (Below w.heap.size w wr) ∧ Hid (∀ p : Addr, w.heap.size + 2 ≤ p.block → wr.cell? p = w1.cell? p)) (fun i _ => 8 - (intOf i).toNat)
  case atStart => exact ⟨0, by omega, rfl, HZ, HG, HB, fun p _ => rfl⟩
  case round =>
    obtain ⟨j, hj, rfl, hz, hg, hb, hk⟩ := hrel
    by_cases hlt : j < 8
    · have hjl : j < (le n 8).length := by rw [HL.out]; exact hlt
      have hcell : wr.cell? ⟨b, off + j, none⟩ = some (.int .u8 (le n 8)[j]) := (hk.out ⟨b, off + j, none⟩ hbge).trans (HC.out j _ (by rw [List.getElem?_map, List.getElem?_eq_getElem hjl]; rfl))
      have HS := Lib.hid (pre_set (le n 8) j hjl (by rw [HL.out]; decide))
      have hset := Lib.hid (heap_setCell_same wr (w.heap.size + 1) (1 + j) _ 28 (.int .u8 (le n 8)[j]) hg.out)
      rw [val_set, HS.out] at hset
      obtain ⟨z, hz'⟩ : ∃ z, (le n 8)[j] = z := ⟨_, rfl⟩
      rw [hz'] at hcell hset
      clear hz'
      have hcg := cell_val hg.out j (by rw [pre_length _ _ (by rw [HL.out]; omega) (by rw [HL.out]; decide)]; omega)
      have hfg := frozen_of_row wr (w.heap.size + 1) (1 + j) _ 28 hg.out
      go_wp2
      go_roundw
      case rel => exact ⟨j + 1, by omega, by go_num, Lib.hid ((heap_setCell_other wr _ _ _ (by simp)).trans hz.out), hset, Lib.hid (hb.out.setCell (p := ⟨w.heap.size + 1, 1 + j, none⟩) (by simp) _), Lib.hid (fun p hp => (World.cell?_setCell_other _ _ _ _ (by intro e; subst e; simp at hp)).trans (hk.out p hp))⟩
      case measure => simp [intOf]; omega
    · have : j = 8 := by omega
      subst this
      rw [show pre (le n 8) 8 = from_ n from by have := pre_all (le n 8); rw [HL.out] at this; exact this] at hg
      go_wp2_with (first
        | (refine wpList_load_row rfl 28 (.tmp 3) rfl (w.heap.size + 1) rfl 28 _ (0, 0) _ hg.out Try.underlying28 rfl (by rw [hsz.out]; exact size24) ?_)
        | (refine wpList_store_row rfl 28 (.tmp 2) (.tmp 20) rfl w.heap.size _ rfl rfl 28 _ hz.out (by rw [hsz.out]; exact size24) (by rw [hsz.out]; rfl) (all_one (val_one _ _)) ?_))
      refine bodyPost_ret (results_cell_row rfl _ _ w.heap.size 28 _ (0, 0) _ rfl (setRow_heap _ _ _ _ _ _ hz.out) Try.underlying28 rfl (by rw [hsz.out]; exact size24)) rfl ⟨rfl, ?_⟩
      exact below_setRow hb.out (Nat.le_refl _) _

set_option maxHeartbeats 400000 in
theorem rplus_any (n : Int) (bs : List Int) (k : Int) (w : World) (hb : bs.length = 16) (wb : ∀ b ∈ bs, (Lit.int .u8 b).wf = true) :
    Calls Try.prog 27 #[.agg (val n bs), .int .u64 k] w (Gives2 w (.agg (val 8 (from_ (IntKind.u64.wrap (num (bs.take 8) + k)))))) := by
  have HN := Lib.hid (fun W => rnumber_any n bs W hb wb)
  obtain ⟨m, hm⟩ : ∃ m, IntKind.u64.wrap (num (bs.take 8) + k) = m := ⟨_, rfl⟩
  have hm0 : 0 ≤ m := by rw [← hm, IntKind.wrap_u64]; omega
  have hm1 : m < 18446744073709551616 := by rw [← hm, IntKind.wrap_u64]; omega
  have HF := Lib.hid (fun W => rfrom_any m W hm0 hm1)
  have hsz := Lib.hid (val_size n bs hb)
  have hsz2 := Lib.hid (val_size 8 (from_ m) (from_length m))
  rw [hm]
  have HM := Lib.hid hm
  have HG := Lib.hid (fun o => (heap_alloc2_old w (Obj.cells (val n bs) 28) o))
  clear wb hb hm hm1
  go_enter Try.func27, Try.ntmps27
  go_wp2_with (refine wpList_load_row rfl 28 (.tmp 2) rfl w.heap.size rfl 28 _ (0, 0) _ (HG.out _) Try.underlying28 rfl (by rw [hsz.out]; exact size24) ?_)
  refine (HN.out _).mono ?_
  rintro e w1 ⟨rfl, hb1⟩
  have hlt : w.heap.size + 1 < w1.heap.size := by have := hb1.size; rw [World.size_alloc, World.size_alloc] at this; omega
  have HZ := Lib.hid ((hb1.block (w.heap.size + 1) (by simp)).trans (heap_alloc2_new w _ _))
  have HB := Lib.hid ((((Below.refl w.heap.size w).alloc (Nat.le_refl _) _).alloc (by simp) _).trans (hb1.mono (by simp; omega)))
  have hm := HM.out
  clear hb1
  go_wp2_with fail
  refine (HF.out _).mono ?_
  rintro e w2 ⟨rfl, hb2⟩
  have HZ2 := Lib.hid ((hb2.block (w.heap.size + 1) hlt).trans HZ.out)
  have HB2 := Lib.hid (HB.out.trans (hb2.mono HB.out.size))
  clear hb2 hm
  go_wp2_with (refine wpList_store_row rfl 28 (.tmp 4) (.tmp 9) rfl (w.heap.size + 1) _ rfl rfl 28 _ HZ2.out (by rw [hsz2.out]; exact size24) (by rw [hsz2.out]; rfl) (all_one (val_one _ _)) ?_)
  refine bodyPost_ret (results_cell_row rfl _ _ (w.heap.size + 1) 28 _ (0, 0) _ rfl (setRow_heap _ _ _ _ _ _ HZ2.out) Try.underlying28 rfl (by rw [hsz2.out]; exact size24)) rfl ⟨rfl, ?_⟩
  exact below_setRow HB2.out (by omega) _
end Go.Proofs.Ytmnokoepimhelaa
