
/- Contracts of layer 4 (value), the fourth part: Plus, Of. -/
import Derived.Test.YtmnokoepimhelaaVal3
import Derived.Laws.IdiomStrings
set_option linter.unusedVariables false
namespace Go.Proofs.Ytmnokoepimhelaa
open Go.RowKit Go.ChangeShapes Go.ChangeAt Go.WideShapes

theorem take8_bd {bs : List Int} (hb : bs.length = 16) (wb : ∀ b ∈ bs, (Lit.int .u8 b).wf = true) : 0 ≤ num (bs.take 8) ∧ num (bs.take 8) < 18446744073709551616 := by
  have h := num_bd (bs.take 8) (fun z h => by have := bounds_u8 (wb z (List.mem_of_mem_take h)); omega)
  rw [show (bs.take 8).length = 8 from by rw [List.length_take]; omega] at h
  exact h

set_option maxHeartbeats 400000 in
theorem plus_any (n : Int) (bs : List Int) (k : Int) (w : World) (hb : bs.length = 16) (wb : ∀ b ∈ bs, (Lit.int .u8 b).wf = true) :
    Calls Try.prog 26 #[.agg (val n bs), .int .u64 k] w (Gives2 w (.agg (val 8 (from_ (IntKind.u64.wrap (num (bs.take 8) + k)))))) := by
  have HN := Lib.hid (fun W => number_any n bs W hb wb)
  obtain ⟨m, hm⟩ : ∃ m, IntKind.u64.wrap (num (bs.take 8) + k) = m := ⟨_, rfl⟩
  have hm0 : 0 ≤ m := by rw [← hm, IntKind.wrap_u64]; omega
  have HF := Lib.hid (fun W => from_any m W hm0)
  have hsz := Lib.hid (val_size n bs hb)
  have hsz2 := Lib.hid (val_size 8 (from_ m) (from_length m))
  rw [hm]
  have HM := Lib.hid hm
  have HG := Lib.hid (fun o => (heap_alloc2_old w (Obj.cells (val n bs) 28) o))
  clear wb hb hm
  go_enter Try.func26, Try.ntmps26
  go_wp2_with (refine wpList_load_row rfl 28 (.tmp 2) rfl w.heap.size rfl 28 _ (0, 0) _ (HG.out _) Try.underlying28 rfl (by rw [hsz.out]; exact size24) ?_)
  refine (HN.out _).mono ?_
  rintro e w1 ⟨rfl, hb1⟩
  have hlt : w.heap.size + 1 < w1.heap.size := by have := hb1.size; rw [World.size_alloc, World.size_alloc] at this; omega
  have HZ := Lib.hid ((hb1.block (w.heap.size + 1) (by simp)).trans (heap_alloc2_new w _ _))
  have HB := Lib.hid ((((Below.refl w.heap.size w).alloc (Nat.le_refl _) _).alloc (by simp) _).trans (hb1.mono (by simp; omega)))
  have hm := HM.out
  clear hb1
  go_wp2_with fail
  refine (HF.out _).mono ?_
  rintro e w2 ⟨rfl, hb2⟩
  have HZ2 := Lib.hid ((hb2.block (w.heap.size + 1) hlt).trans HZ.out)
  have HB2 := Lib.hid (HB.out.trans (hb2.mono HB.out.size))
  clear hb2 hm
  go_wp2_with (refine wpList_store_row rfl 28 (.tmp 4) (.tmp 9) rfl (w.heap.size + 1) _ rfl rfl 28 _ HZ2.out (by rw [hsz2.out]; exact size24) (by rw [hsz2.out]; rfl) (all_one (val_one _ _)) ?_)
  refine bodyPost_ret (results_cell_row rfl _ _ (w.heap.size + 1) 28 _ (0, 0) _ rfl (setRow_heap _ _ _ _ _ _ HZ2.out) Try.underlying28 rfl (by rw [hsz2.out]; exact size24)) rfl ⟨rfl, ?_⟩
  exact below_setRow HB2.out (by omega) _

/-- A string's bytes, as numbers. -/
def byt (s : ByteArray) : List Int := s.data.toList.map fun b => (b.toNat : Int)
theorem byt_length (s : ByteArray) : (byt s).length = s.size := by unfold byt; rw [List.length_map, Array.length_toList]; rfl
theorem byt_u8 (s : ByteArray) : ∀ b ∈ byt s, 0 ≤ b ∧ b < 256 := by
  intro b hb
  obtain ⟨c, _, rfl⟩ := List.mem_map.1 hb
  have := c.toNat_lt
  omega
theorem byt_wf (s : ByteArray) : ∀ b ∈ byt s, (Lit.int .u8 b).wf = true := fun b hb => wf_u8 (byt_u8 s b hb).1 (byt_u8 s b hb).2
theorem str_byt (s : ByteArray) : strOfNums (byt s) = s := by
  obtain ⟨⟨l⟩⟩ := s
  unfold strOfNums byt
  congr 2
  simp only [List.map_map]
  conv => rhs; rw [← List.map_id l]
  apply List.map_congr_left
  intro b _
  simp
theorem byt_inj {s t : ByteArray} (h : byt s = byt t) : s = t := by rw [← str_byt s, ← str_byt t, h]

/-- '[]byte(s)' reads as the string's bytes. -/
theorem Rd.bytes (w : World) (s : ByteArray) (cap : Nat) (fr : Nat × Nat) : Rd (w.alloc (.cells (bytesRow s cap) 5 fr)) (w.heap.size + 1) (some ⟨w.heap.size, 0, none⟩) ((byt s).map (.int .u8)) := by
  intro _
  refine ⟨w.heap.size, 0, rfl, by omega, fun j u hj => ?_⟩
  rw [World.cell?_alloc_mark, Nat.zero_add]
  simp only [byt, List.map_map, List.getElem?_map, Option.map_eq_some_iff, Function.comp] at hj
  obtain ⟨b, hb, rfl⟩ := hj
  have hlt : j < s.data.size := by have := (List.getElem?_eq_some_iff.1 hb).1; simpa using this
  rw [bytesRow_at s cap j hlt]
  have : s.data[j] = b := by
    have := hb
    rw [List.getElem?_eq_getElem (by simpa using hlt)] at this
    simpa using this
  rw [this]

theorem results_row_tmp {P : Program} {fn : Func} {p u : Tmp} {ty : TypeId} (h : fn.results = #[.cell p ty, .tmp u]) (tmps : Array Value) (w : World) (g : Nat) (t : TypeId) (cs : Array Value) (fr : Nat × Nat) (d : TypeDesc)
    (hp : tmps.getD p undef = .pointer (some ⟨g, 0, none⟩)) (hg : w.heap[g]? = some (.cells cs t fr))
    (hu : P.underlying ty = some d) (hd : (match d with | .struct _ | .array _ _ => true | _ => false) = true) (hi : (P.info? ty).map (·.size) = some cs.size) :
    (results fn tmps).run P w = .ok (.tuple #[.agg cs, tmps.getD u undef]) w := by
  have hp' : tmps[p]?.getD undef = .pointer (some ⟨g, 0, none⟩) := by simpa using hp
  simp [results, h, hp', asAddr, run_loadVar_row w g t ty cs fr d hg hu hd hi]

/-- The value of nothing. -/
def val0 : List Int := List.replicate 16 0

end Go.Proofs.Ytmnokoepimhelaa
