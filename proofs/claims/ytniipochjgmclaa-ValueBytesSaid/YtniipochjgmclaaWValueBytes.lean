
/- The walk of the law ValueBytes. -/
import Derived.Test.YtniipochjgmclaaVal9
set_option linter.unusedVariables false
namespace Go.Proofs.Ytniipochjgmclaa
open Go.RowKit Go.ChangeShapes Go.ChangeAt Go.WideShapes
attribute [local go_sem ↓] load24
attribute [local go_sem] rowOf loadOf

theorem num_set : ∀ (l : List Int) (K : Nat) (x : Int), K < l.length → num (l.set K x) = num l + (x - l[K]?.getD 0) * 256 ^ K
  | [], K, x, h => by simp at h
  | z :: l, 0, x, h => by simp [num]; omega
  | z :: l, K + 1, x, h => by
    have := num_set l K x (by simpa using h)
    simp only [List.set_cons_succ, num, List.getElem?_cons_succ, this]
    rw [Int.pow_succ, Int.mul_add, Int.mul_left_comm 256 (x - l[K]?.getD 0), Int.mul_comm 256 (256 ^ K)]
    omega

theorem pad_set (zs : List Int) (K : Nat) (x : Int) (h : K < zs.length) : pad (zs.set K x) 16 = (pad zs 16).set K x := by
  unfold pad
  rw [List.set_append_left _ _ h, List.length_set]
theorem num_pad_set (zs : List Int) (K : Nat) (x : Int) (h : K < zs.length) (h16 : zs.length ≤ 16) (h8 : K < 8) : num ((pad (zs.set K x) 16).take 8) = num ((pad zs 16).take 8) + (x - zs[K]?.getD 0) * 256 ^ K := by
  have hl : (pad zs 16).length = 16 := pad_length _ _ h16
  rw [pad_set zs K x h, List.take_set, num_set _ _ _ (by rw [List.length_take, hl]; omega)]
  congr 3
  rw [List.getElem?_take, if_pos h8]
  unfold pad
  rw [List.getElem?_append_left h]
theorem num_pad_far (zs : List Int) (K : Nat) (x : Int) (h : K < zs.length) (h8 : 8 ≤ K) : num ((pad (zs.set K x) 16).take 8) = num ((pad zs 16).take 8) := by
  rw [pad_set zs K x h, List.take_set, List.set_eq_of_length_le (by rw [List.length_take]; omega)]

theorem size2 {W W0 : World} {B B2 B0 : Nat} {ob o2 : Obj} (h : W.heap[B]? = some ob ∧ W.heap[B2]? = some o2 ∧ Below B0 W0 W ∧ B0 ≤ W.heap.size) : B0 ≤ W.heap.size := h.2.2.2
theorem pow_bits (K : Nat) : (2 : Int) ^ (8 * K) = 256 ^ K := by rw [Int.pow_mul]; rfl
theorem wrap_fin (v y p : Int) : IntKind.u64.wrap (IntKind.u64.wrap y * p) = IntKind.u64.wrap (v + y * p - v) := by
  rw [show v + y * p - v = y * p from by omega]
  simp only [IntKind.wrap_u64]
  rw [Int.mul_emod, Int.emod_emod_of_dvd _ (Int.dvd_refl _), ← Int.mul_emod]
theorem byt_mk : ∀ zs : List Int, (∀ z ∈ zs, 0 ≤ z ∧ z < 256) → ∃ t : ByteArray, byt t = zs := by
  intro zs h
  refine ⟨⟨(zs.map (fun z => UInt8.ofNat z.toNat)).toArray⟩, ?_⟩
  unfold byt
  simp only [List.map_map]
  conv => rhs; rw [← List.map_id zs]
  refine List.map_congr_left (fun z hz => ?_)
  obtain ⟨h0, h1⟩ := h z hz
  simp [Function.comp]
  omega

theorem Rd.setc {w : World} {B g K : Nat} {zs : List Int} {x : Int} (h : Rd w B (some ⟨g, 0, none⟩) (zs.map (.int .u8))) (hK : K < zs.length) :
    Rd (w.setCell ⟨g, K, none⟩ (.int .u8 x)) B (some ⟨g, 0, none⟩) ((zs.set K x).map (.int .u8)) := by
  intro _
  obtain ⟨b, off, he, hb, hc⟩ := h (by intro h0; rw [List.map_eq_nil_iff] at h0; subst h0; simp at hK)
  simp only [Option.some.injEq, Addr.mk.injEq] at he
  obtain ⟨rfl, rfl, _⟩ := he
  refine ⟨g, 0, rfl, hb, fun j u hj => ?_⟩
  by_cases e : j = K
  · subst e
    rw [List.getElem?_map, List.getElem?_set_self hK] at hj
    simp at hj
    subst hj
    rw [Nat.zero_add]
    exact World.cell?_setCell_same _ _ _ (by have := hc j (.int .u8 zs[j]) (by rw [List.getElem?_map, List.getElem?_eq_getElem hK]; rfl); rw [Nat.zero_add] at this; exact this)
  · rw [List.getElem?_map, List.getElem?_set_ne (fun h => e h.symm), ← List.getElem?_map] at hj
    rw [World.cell?_setCell_other _ _ _ _ (by intro h; simp at h <;> omega)]
    exact hc j u hj

set_option maxHeartbeats 2000000 in
theorem bytes_lo (w : World) (a0 : ByteArray) (a1 a2 : Int) (K : Nat) (hK : K < a0.size) (h16 : a0.size ≤ 16) (hx : 0 ≤ a2 ∧ a2 < 256) (hm : a1.tmod a0.size = K) (h8 : K < 8) :
    Calls Try.prog 7 #[.string a0, .int .i64 a1, .int .u8 a2] w fun e w' => e = .returned (.bool true) ∧ Below w.heap.size w w' := by
  have hcv := run_bytes_of_string (P := Try.prog) w 9 41 5 a0 Try.underlying9 Try.underlying41 Try.underlying5
  generalize grownCap w a0.size 0 5 = cap at hcv
  have rd : Rd (w.drew.alloc (.cells (bytesRow a0 cap) 5 ((bytesRow a0 cap).size, (bytesRow a0 cap).size + 1))) (w.heap.size + 1) (some ⟨w.heap.size, 0, none⟩) ((byt a0).map (.int .u8)) := Rd.bytes w.drew a0 cap ((bytesRow a0 cap).size, (bytesRow a0 cap).size + 1)
  have fz : (w.drew.alloc (.cells (bytesRow a0 cap) 5 ((bytesRow a0 cap).size, (bytesRow a0 cap).size + 1))).frozen? ⟨w.heap.size, K, none⟩ = false := by
    show (w.drew.alloc (.cells (bytesRow a0 cap) 5 ((bytesRow a0 cap).size, (bytesRow a0 cap).size + 1))).frozen? ⟨w.drew.heap.size, K, none⟩ = false
    rw [World.frozen?_alloc_mark]
    have : a0.size ≤ (bytesRow a0 cap).size := by unfold bytesRow; rw [Array.size_append, Array.size_map]; exact Nat.le_add_right _ _
    simp; omega
  have bl : Below w.heap.size w (w.drew.alloc (.cells (bytesRow a0 cap) 5 ((bytesRow a0 cap).size, (bytesRow a0 cap).size + 1))) := (Below.refl w.heap.size w).drew.alloc (by simp) _
  have sz1 : (w.drew.alloc (.cells (bytesRow a0 cap) 5 ((bytesRow a0 cap).size, (bytesRow a0 cap).size + 1))).heap.size = w.heap.size + 1 := by simp
  generalize w.drew.alloc (.cells (bytesRow a0 cap) 5 ((bytesRow a0 cap).size, (bytesRow a0 cap).size + 1)) = W1 at hcv rd fz bl sz1
  have ce : W1.cell? ⟨w.heap.size, K, none⟩ = some (.int .u8 ((byt a0)[K]?.getD 0)) := by
    obtain ⟨b, off, he, _, hc⟩ := rd (by intro h0; rw [List.map_eq_nil_iff] at h0; have := byt_length a0; rw [h0] at this; simp at this; omega)
    simp only [Option.some.injEq, Addr.mk.injEq] at he
    obtain ⟨rfl, rfl, _⟩ := he
    have := hc K _ (by rw [List.getElem?_map, List.getElem?_eq_getElem (by rw [byt_length]; exact hK)]; rfl)
    rw [Nat.zero_add] at this
    rw [List.getElem?_eq_getElem (by rw [byt_length]; exact hK)]
    exact this
  have rd2 := Lib.hid (Rd.setc (x := a2) rd (by rw [byt_length]; exact hK))
  have bl2 := Lib.hid (bl.setCell (p := ⟨w.heap.size, K, none⟩) (Nat.le_refl _) (.int .u8 a2))
  have COf := Lib.hid (fun W => vof_ok a0 W h16)
  obtain ⟨W2, hW2⟩ : ∃ W2, Hid (W1.setCell ⟨w.heap.size, K, none⟩ (.int .u8 a2) = W2) := ⟨_, Lib.hid rfl⟩
  have sz2 : W2.heap.size = w.heap.size + 1 := by rw [← hW2.out, ← sz1]; simp
  rw [hW2.out] at rd2 bl2
  have S0 := Lib.hid (show (val 0 val0).size = 17 by decide)
  have T0 := Lib.hid (show (val a0.size (pad (byt a0) 16)).size = 17 from val_size _ _ (pad_length _ _ (by rw [byt_length]; exact h16)))
  have hl2 : ((byt a0).set K a2).length = a0.size := by rw [List.length_set, byt_length]
  obtain ⟨t, ht⟩ := byt_mk ((byt a0).set K a2) (fun z hz => by
    rcases List.mem_or_eq_of_mem_set hz with h | rfl
    · exact byt_u8 a0 z h
    · exact hx)
  have hts : t.size = a0.size := by rw [← byt_length t, ht, hl2]
  have COt := Lib.hid (fun W => show Calls Try.prog 9 #[.string t] W (Gives2 W (.tuple #[.agg (val a0.size (pad (byt t) 16)), .int .i64 0])) from by have := vof_ok t W (by rw [hts]; exact h16); rwa [hts] at this)
  have T1 := Lib.hid (show (val a0.size (pad (byt t) 16)).size = 17 from val_size _ _ (pad_length _ _ (by rw [byt_length, hts]; exact h16)))
  rw [← ht] at rd2
  obtain ⟨nv, hnv⟩ : ∃ nv, num ((pad (byt a0) 16).take 8) = nv := ⟨_, rfl⟩
  obtain ⟨nw, hnw⟩ : ∃ nw, num ((pad (byt t) 16).take 8) = nw := ⟨_, rfl⟩
  have hdiff : nw = nv + (a2 - (byt a0)[K]?.getD 0) * 256 ^ K := by
    rw [← hnw, ← hnv, ht]; exact num_pad_set (byt a0) K a2 (by rw [byt_length]; exact hK) (by rw [byt_length]; exact h16) h8
  have hz : (byt a0)[K]?.getD 0 = ((a0[K]'hK).toNat : Int) := by
    rw [List.getElem?_eq_getElem (by rw [byt_length]; exact hK)]
    exact byt_at a0 K hK
  rw [hz] at hdiff
  have CNs := Lib.hid (fun W => show Calls Try.prog 17 #[.agg (val a0.size (pad (byt a0) 16))] W (Gives2 W (.int .u64 nv)) from by have := number_any a0.size (pad (byt a0) 16) W (pad_length _ _ (by rw [byt_length]; exact h16)) (wf_pad 16 (byt_wf a0)); rwa [hnv] at this)
  have CNt := Lib.hid (fun W => show Calls Try.prog 17 #[.agg (val a0.size (pad (byt t) 16))] W (Gives2 W (.int .u64 nw)) from by have := number_any a0.size (pad (byt t) 16) W (pad_length _ _ (by rw [byt_length, hts]; exact h16)) (wf_pad 16 (byt_wf t)); rwa [hnw] at this)
  replace hts := Lib.hid hts
  clear ht hnv hnw hz
  obtain ⟨d, hd⟩ : ∃ d, IntKind.u64.wrap (nw - nv) = d := ⟨_, rfl⟩
  have hfin : IntKind.u64.wrap (IntKind.u64.wrap (a2 - IntKind.u64.wrap ((a0[K]'hK).toNat : Int)) * 2 ^ (8 * K)) = d := by
    rw [← hd, hdiff, pow_bits K, wrap_id (Int.natCast_nonneg _) (by have := (a0[K]'hK).toNat_lt; omega)]; exact wrap_fin _ _ _
  clear hdiff
  replace sz2 := Lib.hid sz2
  clear rd bl hl2 sz1
  have k0 : (0 : Int) < a0.size := by omega
  have k1 : ¬ (a0.size : Int) > 16 := by omega
  have k2 : ¬ (a0.size : Int) = 0 := by omega
  have k3 : ¬ (K : Int) < 0 := by omega
  have k4 : (K : Int) < a0.size := by omega
  have k5 : (0 : Int) ≤ K := by omega
  clear h16
  go_enter Try.func7, Try.ntmps7
  go_wp2_with fail
  rw [hW2.out]
  refine (COf.out _).mono ?_
  rintro e w3 ⟨rfl, h3⟩
  go_wp2_with (refine wpl_alloc run_alloc24 rfl rfl ?_)
  intro W4 g4 b4 s4
  go_wp2_with (refine wpl_store 24 (.tmp 9) (.tmp 40) rfl rfl _ (val a0.size (pad (byt a0) 16)) rfl rfl 24 _ g4 (by rw [T0.out]; exact size24) (S0.out.trans T0.out.symm) (val_one _ _) ?_)
  intro W5 g5 b5 s5
  have rd5 := (((rd2.out.below (h3.mono (by have := sz2.out; omega))).below (b4.mono (by have := h3.size; have := sz2.out; omega))).grown b5 (by have := h3.size; have := sz2.out; omega) (by intro g hg; have := h3.size; have := sz2.out; simp at hg; omega))
  have z5 : Below w.heap.size w W5 := Below.of_grown ((bl2.out.trans (h3.mono (by have := sz2.out; omega))).trans (b4.mono (by have := h3.size; have := sz2.out; omega))) b5 (by have := h3.size; have := sz2.out; omega) (by have := h3.size; have := sz2.out; omega)
  have q5 : w.heap.size + 1 ≤ w3.heap.size := by have := h3.size; have := sz2.out; omega
  have q5' : W5.heap.size = w3.heap.size + 1 := by omega
  generalize hB1 : w3.heap.size = B1
  rw [hB1] at g5 q5 q5'
  clear h3 b4 b5 s4 s5 g4 hB1
  have hst := run_str (P := Try.prog) 41 5 9 cap Try.underlying41 Try.underlying5 Try.underlying9 rd5
  rw [byt_length, hts.out, str_byt] at hst
  go_wp2_with fail
  refine (COt.out _).mono ?_
  rintro e w6 ⟨rfl, h6⟩
  have g6 := row_below g5 h6 (by omega)
  have l6 := row_lt g6
  have z6 := z5.trans (h6.mono (by omega))
  go_wp2_with (refine wpl_alloc run_alloc24 rfl rfl ?_)
  intro W7 g7 b7 s7
  have g70 := row_below g6 b7 l6
  go_wp2_with (refine wpl_store 24 (.tmp 11) (.tmp 46) rfl rfl _ (val a0.size (pad (byt t) 16)) rfl rfl 24 _ g7 (by rw [T1.out]; exact size24) (S0.out.trans T1.out.symm) (val_one _ _) ?_)
  intro W8 g8 b8 s8
  have g80 := row_grown g70 b8 (Nat.ne_of_lt l6)
  have z8 : Below w.heap.size w W8 := Below.of_grown (z6.trans (b7.mono (by omega))) b8 (by omega) (by omega)
  have q8 : w.heap.size ≤ W8.heap.size := by omega
  generalize hB2 : w6.heap.size = B2
  rw [hB2] at g8
  have I : W8.drew.heap[B2]? = some (.cells (val a0.size (pad (byt t) 16)) 24 (0, 0)) ∧ W8.drew.heap[B1]? = some (.cells (val a0.size (pad (byt a0) 16)) 24 (0, 0)) ∧ Below w.heap.size w W8.drew ∧ w.heap.size ≤ W8.drew.heap.size := ⟨g8, g80, z8.drew, q8⟩
  clear g6 l6 z6 g7 b7 s7 g70 b8 s8 g80 z8 q8 g8 hB2 h6 hst rd5 z5 q5 q5' g5 rd2 bl2 fz ce hcv hm
  have t0 := T0.out
  have t1 := T1.out
  go_wp2
  go_region_held3 (fun W => W.heap[B2]? = some (.cells (val a0.size (pad (byt t) 16)) 24 (0, 0)) ∧ W.heap[B1]? = some (.cells (val a0.size (pad (byt a0) 16)) 24 (0, 0)) ∧ Below w.heap.size w W ∧ w.heap.size ≤ W.heap.size) (first | exact keep2 (by assumption) (by assumption) | exact I)
    (first
      | (go_at_call_of 17 (Value.agg (val a0.size (pad (byt t) 16))); refine (CNt.out _).mono ?_; rintro e wx ⟨rfl, hx⟩)
      | (go_at_call_of 17 (Value.agg (val a0.size (pad (byt a0) 16))); refine (CNs.out _).mono ?_; rintro e wx ⟨rfl, hx⟩))
  all_goals (go_wp2_with (go_at_call 8; refine (awake _).mono ?_; rintro e wy ⟨rfl, hy⟩))
  all_goals go_ret
  all_goals exact ⟨rfl, (held2 (by assumption)).trans (hy.mono (size2 (by assumption)))⟩
set_option maxHeartbeats 2000000 in
theorem bytes_hi (w : World) (a0 : ByteArray) (a1 a2 : Int) (K : Nat) (hK : K < a0.size) (h16 : a0.size ≤ 16) (hx : 0 ≤ a2 ∧ a2 < 256) (hm : a1.tmod a0.size = K) (h8 : 8 ≤ K) :
    Calls Try.prog 7 #[.string a0, .int .i64 a1, .int .u8 a2] w fun e w' => e = .returned (.bool true) ∧ Below w.heap.size w w' := by
  have hcv := run_bytes_of_string (P := Try.prog) w 9 41 5 a0 Try.underlying9 Try.underlying41 Try.underlying5
  generalize grownCap w a0.size 0 5 = cap at hcv
  have rd : Rd (w.drew.alloc (.cells (bytesRow a0 cap) 5 ((bytesRow a0 cap).size, (bytesRow a0 cap).size + 1))) (w.heap.size + 1) (some ⟨w.heap.size, 0, none⟩) ((byt a0).map (.int .u8)) := Rd.bytes w.drew a0 cap ((bytesRow a0 cap).size, (bytesRow a0 cap).size + 1)
  have fz : (w.drew.alloc (.cells (bytesRow a0 cap) 5 ((bytesRow a0 cap).size, (bytesRow a0 cap).size + 1))).frozen? ⟨w.heap.size, K, none⟩ = false := by
    show (w.drew.alloc (.cells (bytesRow a0 cap) 5 ((bytesRow a0 cap).size, (bytesRow a0 cap).size + 1))).frozen? ⟨w.drew.heap.size, K, none⟩ = false
    rw [World.frozen?_alloc_mark]
    have : a0.size ≤ (bytesRow a0 cap).size := by unfold bytesRow; rw [Array.size_append, Array.size_map]; exact Nat.le_add_right _ _
    simp; omega
  have bl : Below w.heap.size w (w.drew.alloc (.cells (bytesRow a0 cap) 5 ((bytesRow a0 cap).size, (bytesRow a0 cap).size + 1))) := (Below.refl w.heap.size w).drew.alloc (by simp) _
  have sz1 : (w.drew.alloc (.cells (bytesRow a0 cap) 5 ((bytesRow a0 cap).size, (bytesRow a0 cap).size + 1))).heap.size = w.heap.size + 1 := by simp
  generalize w.drew.alloc (.cells (bytesRow a0 cap) 5 ((bytesRow a0 cap).size, (bytesRow a0 cap).size + 1)) = W1 at hcv rd fz bl sz1
  have ce : W1.cell? ⟨w.heap.size, K, none⟩ = some (.int .u8 ((byt a0)[K]?.getD 0)) := by
    obtain ⟨b, off, he, _, hc⟩ := rd (by intro h0; rw [List.map_eq_nil_iff] at h0; have := byt_length a0; rw [h0] at this; simp at this; omega)
    simp only [Option.some.injEq, Addr.mk.injEq] at he
    obtain ⟨rfl, rfl, _⟩ := he
    have := hc K _ (by rw [List.getElem?_map, List.getElem?_eq_getElem (by rw [byt_length]; exact hK)]; rfl)
    rw [Nat.zero_add] at this
    rw [List.getElem?_eq_getElem (by rw [byt_length]; exact hK)]
    exact this
  have rd2 := Lib.hid (Rd.setc (x := a2) rd (by rw [byt_length]; exact hK))
  have bl2 := Lib.hid (bl.setCell (p := ⟨w.heap.size, K, none⟩) (Nat.le_refl _) (.int .u8 a2))
  have COf := Lib.hid (fun W => vof_ok a0 W h16)
  obtain ⟨W2, hW2⟩ : ∃ W2, Hid (W1.setCell ⟨w.heap.size, K, none⟩ (.int .u8 a2) = W2) := ⟨_, Lib.hid rfl⟩
  have sz2 : W2.heap.size = w.heap.size + 1 := by rw [← hW2.out, ← sz1]; simp
  rw [hW2.out] at rd2 bl2
  have S0 := Lib.hid (show (val 0 val0).size = 17 by decide)
  have T0 := Lib.hid (show (val a0.size (pad (byt a0) 16)).size = 17 from val_size _ _ (pad_length _ _ (by rw [byt_length]; exact h16)))
  have hl2 : ((byt a0).set K a2).length = a0.size := by rw [List.length_set, byt_length]
  obtain ⟨t, ht⟩ := byt_mk ((byt a0).set K a2) (fun z hz => by
    rcases List.mem_or_eq_of_mem_set hz with h | rfl
    · exact byt_u8 a0 z h
    · exact hx)
  have hts : t.size = a0.size := by rw [← byt_length t, ht, hl2]
  have COt := Lib.hid (fun W => show Calls Try.prog 9 #[.string t] W (Gives2 W (.tuple #[.agg (val a0.size (pad (byt t) 16)), .int .i64 0])) from by have := vof_ok t W (by rw [hts]; exact h16); rwa [hts] at this)
  have T1 := Lib.hid (show (val a0.size (pad (byt t) 16)).size = 17 from val_size _ _ (pad_length _ _ (by rw [byt_length, hts]; exact h16)))
  rw [← ht] at rd2
  obtain ⟨nv, hnv⟩ : ∃ nv, num ((pad (byt a0) 16).take 8) = nv := ⟨_, rfl⟩
  obtain ⟨nw, hnw⟩ : ∃ nw, num ((pad (byt t) 16).take 8) = nw := ⟨_, rfl⟩
  have hdiff : nw = nv := by
    rw [← hnw, ← hnv, ht]; exact num_pad_far (byt a0) K a2 (by rw [byt_length]; exact hK) h8
  have hd : IntKind.u64.wrap (nw - nv) = 0 := by rw [hdiff, Int.sub_self]; rfl
  have CNs := Lib.hid (fun W => show Calls Try.prog 17 #[.agg (val a0.size (pad (byt a0) 16))] W (Gives2 W (.int .u64 nv)) from by have := number_any a0.size (pad (byt a0) 16) W (pad_length _ _ (by rw [byt_length]; exact h16)) (wf_pad 16 (byt_wf a0)); rwa [hnv] at this)
  have CNt := Lib.hid (fun W => show Calls Try.prog 17 #[.agg (val a0.size (pad (byt t) 16))] W (Gives2 W (.int .u64 nw)) from by have := number_any a0.size (pad (byt t) 16) W (pad_length _ _ (by rw [byt_length, hts]; exact h16)) (wf_pad 16 (byt_wf t)); rwa [hnw] at this)
  replace hts := Lib.hid hts
  clear ht hnv hnw
  clear hdiff
  replace sz2 := Lib.hid sz2
  clear rd bl hl2 sz1
  have k0 : (0 : Int) < a0.size := by omega
  have k1 : ¬ (a0.size : Int) > 16 := by omega
  have k2 : ¬ (a0.size : Int) = 0 := by omega
  have k3 : ¬ (K : Int) < 0 := by omega
  have k4 : (K : Int) < a0.size := by omega
  have k6 : (8 : Int) ≤ K := by omega
  have k5 : (0 : Int) ≤ K := by omega
  clear h16
  go_enter Try.func7, Try.ntmps7
  go_wp2_with fail
  rw [hW2.out]
  refine (COf.out _).mono ?_
  rintro e w3 ⟨rfl, h3⟩
  go_wp2_with (refine wpl_alloc run_alloc24 rfl rfl ?_)
  intro W4 g4 b4 s4
  go_wp2_with (refine wpl_store 24 (.tmp 9) (.tmp 40) rfl rfl _ (val a0.size (pad (byt a0) 16)) rfl rfl 24 _ g4 (by rw [T0.out]; exact size24) (S0.out.trans T0.out.symm) (val_one _ _) ?_)
  intro W5 g5 b5 s5
  have rd5 := (((rd2.out.below (h3.mono (by have := sz2.out; omega))).below (b4.mono (by have := h3.size; have := sz2.out; omega))).grown b5 (by have := h3.size; have := sz2.out; omega) (by intro g hg; have := h3.size; have := sz2.out; simp at hg; omega))
  have z5 : Below w.heap.size w W5 := Below.of_grown ((bl2.out.trans (h3.mono (by have := sz2.out; omega))).trans (b4.mono (by have := h3.size; have := sz2.out; omega))) b5 (by have := h3.size; have := sz2.out; omega) (by have := h3.size; have := sz2.out; omega)
  have q5 : w.heap.size + 1 ≤ w3.heap.size := by have := h3.size; have := sz2.out; omega
  have q5' : W5.heap.size = w3.heap.size + 1 := by omega
  generalize hB1 : w3.heap.size = B1
  rw [hB1] at g5 q5 q5'
  clear h3 b4 b5 s4 s5 g4 hB1
  have hst := run_str (P := Try.prog) 41 5 9 cap Try.underlying41 Try.underlying5 Try.underlying9 rd5
  rw [byt_length, hts.out, str_byt] at hst
  go_wp2_with fail
  refine (COt.out _).mono ?_
  rintro e w6 ⟨rfl, h6⟩
  have g6 := row_below g5 h6 (by omega)
  have l6 := row_lt g6
  have z6 := z5.trans (h6.mono (by omega))
  go_wp2_with (refine wpl_alloc run_alloc24 rfl rfl ?_)
  intro W7 g7 b7 s7
  have g70 := row_below g6 b7 l6
  go_wp2_with (refine wpl_store 24 (.tmp 11) (.tmp 46) rfl rfl _ (val a0.size (pad (byt t) 16)) rfl rfl 24 _ g7 (by rw [T1.out]; exact size24) (S0.out.trans T1.out.symm) (val_one _ _) ?_)
  intro W8 g8 b8 s8
  have g80 := row_grown g70 b8 (Nat.ne_of_lt l6)
  have z8 : Below w.heap.size w W8 := Below.of_grown (z6.trans (b7.mono (by omega))) b8 (by omega) (by omega)
  have q8 : w.heap.size ≤ W8.heap.size := by omega
  generalize hB2 : w6.heap.size = B2
  rw [hB2] at g8
  have I : W8.drew.heap[B2]? = some (.cells (val a0.size (pad (byt t) 16)) 24 (0, 0)) ∧ W8.drew.heap[B1]? = some (.cells (val a0.size (pad (byt a0) 16)) 24 (0, 0)) ∧ Below w.heap.size w W8.drew ∧ w.heap.size ≤ W8.drew.heap.size := ⟨g8, g80, z8.drew, q8⟩
  clear g6 l6 z6 g7 b7 s7 g70 b8 s8 g80 z8 q8 g8 hB2 h6 hst rd5 z5 q5 q5' g5 rd2 bl2 fz ce hcv hm
  have t0 := T0.out
  have t1 := T1.out
  go_wp2
  go_region_held3 (fun W => W.heap[B2]? = some (.cells (val a0.size (pad (byt t) 16)) 24 (0, 0)) ∧ W.heap[B1]? = some (.cells (val a0.size (pad (byt a0) 16)) 24 (0, 0)) ∧ Below w.heap.size w W ∧ w.heap.size ≤ W.heap.size) (first | exact keep2 (by assumption) (by assumption) | exact I)
    (first
      | (go_at_call_of 17 (Value.agg (val a0.size (pad (byt t) 16))); refine (CNt.out _).mono ?_; rintro e wx ⟨rfl, hx⟩)
      | (go_at_call_of 17 (Value.agg (val a0.size (pad (byt a0) 16))); refine (CNs.out _).mono ?_; rintro e wx ⟨rfl, hx⟩))
  all_goals (go_wp2_with (go_at_call 8; refine (awake _).mono ?_; rintro e wy ⟨rfl, hy⟩))
  all_goals go_ret
  all_goals exact ⟨rfl, (held2 (by assumption)).trans (hy.mono (size2 (by assumption)))⟩
set_option maxHeartbeats 2000000 in
theorem bytes_lo_neg (w : World) (a0 : ByteArray) (a1 a2 : Int) (K : Nat) (hK : K < a0.size) (h16 : a0.size ≤ 16) (hx : 0 ≤ a2 ∧ a2 < 256) (hm : a1.tmod a0.size = -(K : Int)) (hp : 0 < K) (h8 : K < 8) :
    Calls Try.prog 7 #[.string a0, .int .i64 a1, .int .u8 a2] w fun e w' => e = .returned (.bool true) ∧ Below w.heap.size w w' := by
  have hcv := run_bytes_of_string (P := Try.prog) w 9 41 5 a0 Try.underlying9 Try.underlying41 Try.underlying5
  generalize grownCap w a0.size 0 5 = cap at hcv
  have rd : Rd (w.drew.alloc (.cells (bytesRow a0 cap) 5 ((bytesRow a0 cap).size, (bytesRow a0 cap).size + 1))) (w.heap.size + 1) (some ⟨w.heap.size, 0, none⟩) ((byt a0).map (.int .u8)) := Rd.bytes w.drew a0 cap ((bytesRow a0 cap).size, (bytesRow a0 cap).size + 1)
  have fz : (w.drew.alloc (.cells (bytesRow a0 cap) 5 ((bytesRow a0 cap).size, (bytesRow a0 cap).size + 1))).frozen? ⟨w.heap.size, K, none⟩ = false := by
    show (w.drew.alloc (.cells (bytesRow a0 cap) 5 ((bytesRow a0 cap).size, (bytesRow a0 cap).size + 1))).frozen? ⟨w.drew.heap.size, K, none⟩ = false
    rw [World.frozen?_alloc_mark]
    have : a0.size ≤ (bytesRow a0 cap).size := by unfold bytesRow; rw [Array.size_append, Array.size_map]; exact Nat.le_add_right _ _
    simp; omega
  have bl : Below w.heap.size w (w.drew.alloc (.cells (bytesRow a0 cap) 5 ((bytesRow a0 cap).size, (bytesRow a0 cap).size + 1))) := (Below.refl w.heap.size w).drew.alloc (by simp) _
  have sz1 : (w.drew.alloc (.cells (bytesRow a0 cap) 5 ((bytesRow a0 cap).size, (bytesRow a0 cap).size + 1))).heap.size = w.heap.size + 1 := by simp
  generalize w.drew.alloc (.cells (bytesRow a0 cap) 5 ((bytesRow a0 cap).size, (bytesRow a0 cap).size + 1)) = W1 at hcv rd fz bl sz1
  have ce : W1.cell? ⟨w.heap.size, K, none⟩ = some (.int .u8 ((byt a0)[K]?.getD 0)) := by
    obtain ⟨b, off, he, _, hc⟩ := rd (by intro h0; rw [List.map_eq_nil_iff] at h0; have := byt_length a0; rw [h0] at this; simp at this; omega)
    simp only [Option.some.injEq, Addr.mk.injEq] at he
    obtain ⟨rfl, rfl, _⟩ := he
    have := hc K _ (by rw [List.getElem?_map, List.getElem?_eq_getElem (by rw [byt_length]; exact hK)]; rfl)
    rw [Nat.zero_add] at this
    rw [List.getElem?_eq_getElem (by rw [byt_length]; exact hK)]
    exact this
  have rd2 := Lib.hid (Rd.setc (x := a2) rd (by rw [byt_length]; exact hK))
  have bl2 := Lib.hid (bl.setCell (p := ⟨w.heap.size, K, none⟩) (Nat.le_refl _) (.int .u8 a2))
  have COf := Lib.hid (fun W => vof_ok a0 W h16)
  obtain ⟨W2, hW2⟩ : ∃ W2, Hid (W1.setCell ⟨w.heap.size, K, none⟩ (.int .u8 a2) = W2) := ⟨_, Lib.hid rfl⟩
  have sz2 : W2.heap.size = w.heap.size + 1 := by rw [← hW2.out, ← sz1]; simp
  rw [hW2.out] at rd2 bl2
  have S0 := Lib.hid (show (val 0 val0).size = 17 by decide)
  have T0 := Lib.hid (show (val a0.size (pad (byt a0) 16)).size = 17 from val_size _ _ (pad_length _ _ (by rw [byt_length]; exact h16)))
  have hl2 : ((byt a0).set K a2).length = a0.size := by rw [List.length_set, byt_length]
  obtain ⟨t, ht⟩ := byt_mk ((byt a0).set K a2) (fun z hz => by
    rcases List.mem_or_eq_of_mem_set hz with h | rfl
    · exact byt_u8 a0 z h
    · exact hx)
  have hts : t.size = a0.size := by rw [← byt_length t, ht, hl2]
  have COt := Lib.hid (fun W => show Calls Try.prog 9 #[.string t] W (Gives2 W (.tuple #[.agg (val a0.size (pad (byt t) 16)), .int .i64 0])) from by have := vof_ok t W (by rw [hts]; exact h16); rwa [hts] at this)
  have T1 := Lib.hid (show (val a0.size (pad (byt t) 16)).size = 17 from val_size _ _ (pad_length _ _ (by rw [byt_length, hts]; exact h16)))
  rw [← ht] at rd2
  obtain ⟨nv, hnv⟩ : ∃ nv, num ((pad (byt a0) 16).take 8) = nv := ⟨_, rfl⟩
  obtain ⟨nw, hnw⟩ : ∃ nw, num ((pad (byt t) 16).take 8) = nw := ⟨_, rfl⟩
  have hdiff : nw = nv + (a2 - (byt a0)[K]?.getD 0) * 256 ^ K := by
    rw [← hnw, ← hnv, ht]; exact num_pad_set (byt a0) K a2 (by rw [byt_length]; exact hK) (by rw [byt_length]; exact h16) h8
  have hz : (byt a0)[K]?.getD 0 = ((a0[K]'hK).toNat : Int) := by
    rw [List.getElem?_eq_getElem (by rw [byt_length]; exact hK)]
    exact byt_at a0 K hK
  rw [hz] at hdiff
  have CNs := Lib.hid (fun W => show Calls Try.prog 17 #[.agg (val a0.size (pad (byt a0) 16))] W (Gives2 W (.int .u64 nv)) from by have := number_any a0.size (pad (byt a0) 16) W (pad_length _ _ (by rw [byt_length]; exact h16)) (wf_pad 16 (byt_wf a0)); rwa [hnv] at this)
  have CNt := Lib.hid (fun W => show Calls Try.prog 17 #[.agg (val a0.size (pad (byt t) 16))] W (Gives2 W (.int .u64 nw)) from by have := number_any a0.size (pad (byt t) 16) W (pad_length _ _ (by rw [byt_length, hts]; exact h16)) (wf_pad 16 (byt_wf t)); rwa [hnw] at this)
  replace hts := Lib.hid hts
  clear ht hnv hnw hz
  obtain ⟨d, hd⟩ : ∃ d, IntKind.u64.wrap (nw - nv) = d := ⟨_, rfl⟩
  have hfin : IntKind.u64.wrap (IntKind.u64.wrap (a2 - IntKind.u64.wrap ((a0[K]'hK).toNat : Int)) * 2 ^ (8 * K)) = d := by
    rw [← hd, hdiff, pow_bits K, wrap_id (Int.natCast_nonneg _) (by have := (a0[K]'hK).toNat_lt; omega)]; exact wrap_fin _ _ _
  clear hdiff
  replace sz2 := Lib.hid sz2
  clear rd bl hl2 sz1
  have k0 : (0 : Int) < a0.size := by omega
  have k1 : ¬ (a0.size : Int) > 16 := by omega
  have k2 : ¬ (a0.size : Int) = 0 := by omega
  have k3 : -(K : Int) < 0 := by omega
  have k4 : (K : Int) < a0.size := by omega
  have k5 : (0 : Int) ≤ K := by omega
  clear h16
  go_enter Try.func7, Try.ntmps7
  go_wp2_with fail
  rw [hW2.out]
  refine (COf.out _).mono ?_
  rintro e w3 ⟨rfl, h3⟩
  go_wp2_with (refine wpl_alloc run_alloc24 rfl rfl ?_)
  intro W4 g4 b4 s4
  go_wp2_with (refine wpl_store 24 (.tmp 9) (.tmp 40) rfl rfl _ (val a0.size (pad (byt a0) 16)) rfl rfl 24 _ g4 (by rw [T0.out]; exact size24) (S0.out.trans T0.out.symm) (val_one _ _) ?_)
  intro W5 g5 b5 s5
  have rd5 := (((rd2.out.below (h3.mono (by have := sz2.out; omega))).below (b4.mono (by have := h3.size; have := sz2.out; omega))).grown b5 (by have := h3.size; have := sz2.out; omega) (by intro g hg; have := h3.size; have := sz2.out; simp at hg; omega))
  have z5 : Below w.heap.size w W5 := Below.of_grown ((bl2.out.trans (h3.mono (by have := sz2.out; omega))).trans (b4.mono (by have := h3.size; have := sz2.out; omega))) b5 (by have := h3.size; have := sz2.out; omega) (by have := h3.size; have := sz2.out; omega)
  have q5 : w.heap.size + 1 ≤ w3.heap.size := by have := h3.size; have := sz2.out; omega
  have q5' : W5.heap.size = w3.heap.size + 1 := by omega
  generalize hB1 : w3.heap.size = B1
  rw [hB1] at g5 q5 q5'
  clear h3 b4 b5 s4 s5 g4 hB1
  have hst := run_str (P := Try.prog) 41 5 9 cap Try.underlying41 Try.underlying5 Try.underlying9 rd5
  rw [byt_length, hts.out, str_byt] at hst
  go_wp2_with fail
  refine (COt.out _).mono ?_
  rintro e w6 ⟨rfl, h6⟩
  have g6 := row_below g5 h6 (by omega)
  have l6 := row_lt g6
  have z6 := z5.trans (h6.mono (by omega))
  go_wp2_with (refine wpl_alloc run_alloc24 rfl rfl ?_)
  intro W7 g7 b7 s7
  have g70 := row_below g6 b7 l6
  go_wp2_with (refine wpl_store 24 (.tmp 11) (.tmp 46) rfl rfl _ (val a0.size (pad (byt t) 16)) rfl rfl 24 _ g7 (by rw [T1.out]; exact size24) (S0.out.trans T1.out.symm) (val_one _ _) ?_)
  intro W8 g8 b8 s8
  have g80 := row_grown g70 b8 (Nat.ne_of_lt l6)
  have z8 : Below w.heap.size w W8 := Below.of_grown (z6.trans (b7.mono (by omega))) b8 (by omega) (by omega)
  have q8 : w.heap.size ≤ W8.heap.size := by omega
  generalize hB2 : w6.heap.size = B2
  rw [hB2] at g8
  have I : W8.drew.heap[B2]? = some (.cells (val a0.size (pad (byt t) 16)) 24 (0, 0)) ∧ W8.drew.heap[B1]? = some (.cells (val a0.size (pad (byt a0) 16)) 24 (0, 0)) ∧ Below w.heap.size w W8.drew ∧ w.heap.size ≤ W8.drew.heap.size := ⟨g8, g80, z8.drew, q8⟩
  clear g6 l6 z6 g7 b7 s7 g70 b8 s8 g80 z8 q8 g8 hB2 h6 hst rd5 z5 q5 q5' g5 rd2 bl2 fz ce hcv hm
  have t0 := T0.out
  have t1 := T1.out
  go_wp2
  go_region_held3 (fun W => W.heap[B2]? = some (.cells (val a0.size (pad (byt t) 16)) 24 (0, 0)) ∧ W.heap[B1]? = some (.cells (val a0.size (pad (byt a0) 16)) 24 (0, 0)) ∧ Below w.heap.size w W ∧ w.heap.size ≤ W.heap.size) (first | exact keep2 (by assumption) (by assumption) | exact I)
    (first
      | (go_at_call_of 17 (Value.agg (val a0.size (pad (byt t) 16))); refine (CNt.out _).mono ?_; rintro e wx ⟨rfl, hx⟩)
      | (go_at_call_of 17 (Value.agg (val a0.size (pad (byt a0) 16))); refine (CNs.out _).mono ?_; rintro e wx ⟨rfl, hx⟩))
  all_goals (go_wp2_with (go_at_call 8; refine (awake _).mono ?_; rintro e wy ⟨rfl, hy⟩))
  all_goals go_ret
  all_goals exact ⟨rfl, (held2 (by assumption)).trans (hy.mono (size2 (by assumption)))⟩
set_option maxHeartbeats 2000000 in
theorem bytes_hi_neg (w : World) (a0 : ByteArray) (a1 a2 : Int) (K : Nat) (hK : K < a0.size) (h16 : a0.size ≤ 16) (hx : 0 ≤ a2 ∧ a2 < 256) (hm : a1.tmod a0.size = -(K : Int)) (hp : 0 < K) (h8 : 8 ≤ K) :
    Calls Try.prog 7 #[.string a0, .int .i64 a1, .int .u8 a2] w fun e w' => e = .returned (.bool true) ∧ Below w.heap.size w w' := by
  have hcv := run_bytes_of_string (P := Try.prog) w 9 41 5 a0 Try.underlying9 Try.underlying41 Try.underlying5
  generalize grownCap w a0.size 0 5 = cap at hcv
  have rd : Rd (w.drew.alloc (.cells (bytesRow a0 cap) 5 ((bytesRow a0 cap).size, (bytesRow a0 cap).size + 1))) (w.heap.size + 1) (some ⟨w.heap.size, 0, none⟩) ((byt a0).map (.int .u8)) := Rd.bytes w.drew a0 cap ((bytesRow a0 cap).size, (bytesRow a0 cap).size + 1)
  have fz : (w.drew.alloc (.cells (bytesRow a0 cap) 5 ((bytesRow a0 cap).size, (bytesRow a0 cap).size + 1))).frozen? ⟨w.heap.size, K, none⟩ = false := by
    show (w.drew.alloc (.cells (bytesRow a0 cap) 5 ((bytesRow a0 cap).size, (bytesRow a0 cap).size + 1))).frozen? ⟨w.drew.heap.size, K, none⟩ = false
    rw [World.frozen?_alloc_mark]
    have : a0.size ≤ (bytesRow a0 cap).size := by unfold bytesRow; rw [Array.size_append, Array.size_map]; exact Nat.le_add_right _ _
    simp; omega
  have bl : Below w.heap.size w (w.drew.alloc (.cells (bytesRow a0 cap) 5 ((bytesRow a0 cap).size, (bytesRow a0 cap).size + 1))) := (Below.refl w.heap.size w).drew.alloc (by simp) _
  have sz1 : (w.drew.alloc (.cells (bytesRow a0 cap) 5 ((bytesRow a0 cap).size, (bytesRow a0 cap).size + 1))).heap.size = w.heap.size + 1 := by simp
  generalize w.drew.alloc (.cells (bytesRow a0 cap) 5 ((bytesRow a0 cap).size, (bytesRow a0 cap).size + 1)) = W1 at hcv rd fz bl sz1
  have ce : W1.cell? ⟨w.heap.size, K, none⟩ = some (.int .u8 ((byt a0)[K]?.getD 0)) := by
    obtain ⟨b, off, he, _, hc⟩ := rd (by intro h0; rw [List.map_eq_nil_iff] at h0; have := byt_length a0; rw [h0] at this; simp at this; omega)
    simp only [Option.some.injEq, Addr.mk.injEq] at he
    obtain ⟨rfl, rfl, _⟩ := he
    have := hc K _ (by rw [List.getElem?_map, List.getElem?_eq_getElem (by rw [byt_length]; exact hK)]; rfl)
    rw [Nat.zero_add] at this
    rw [List.getElem?_eq_getElem (by rw [byt_length]; exact hK)]
    exact this
  have rd2 := Lib.hid (Rd.setc (x := a2) rd (by rw [byt_length]; exact hK))
  have bl2 := Lib.hid (bl.setCell (p := ⟨w.heap.size, K, none⟩) (Nat.le_refl _) (.int .u8 a2))
  have COf := Lib.hid (fun W => vof_ok a0 W h16)
  obtain ⟨W2, hW2⟩ : ∃ W2, Hid (W1.setCell ⟨w.heap.size, K, none⟩ (.int .u8 a2) = W2) := ⟨_, Lib.hid rfl⟩
  have sz2 : W2.heap.size = w.heap.size + 1 := by rw [← hW2.out, ← sz1]; simp
  rw [hW2.out] at rd2 bl2
  have S0 := Lib.hid (show (val 0 val0).size = 17 by decide)
  have T0 := Lib.hid (show (val a0.size (pad (byt a0) 16)).size = 17 from val_size _ _ (pad_length _ _ (by rw [byt_length]; exact h16)))
  have hl2 : ((byt a0).set K a2).length = a0.size := by rw [List.length_set, byt_length]
  obtain ⟨t, ht⟩ := byt_mk ((byt a0).set K a2) (fun z hz => by
    rcases List.mem_or_eq_of_mem_set hz with h | rfl
    · exact byt_u8 a0 z h
    · exact hx)
  have hts : t.size = a0.size := by rw [← byt_length t, ht, hl2]
  have COt := Lib.hid (fun W => show Calls Try.prog 9 #[.string t] W (Gives2 W (.tuple #[.agg (val a0.size (pad (byt t) 16)), .int .i64 0])) from by have := vof_ok t W (by rw [hts]; exact h16); rwa [hts] at this)
  have T1 := Lib.hid (show (val a0.size (pad (byt t) 16)).size = 17 from val_size _ _ (pad_length _ _ (by rw [byt_length, hts]; exact h16)))
  rw [← ht] at rd2
  obtain ⟨nv, hnv⟩ : ∃ nv, num ((pad (byt a0) 16).take 8) = nv := ⟨_, rfl⟩
  obtain ⟨nw, hnw⟩ : ∃ nw, num ((pad (byt t) 16).take 8) = nw := ⟨_, rfl⟩
  have hdiff : nw = nv := by
    rw [← hnw, ← hnv, ht]; exact num_pad_far (byt a0) K a2 (by rw [byt_length]; exact hK) h8
  have hd : IntKind.u64.wrap (nw - nv) = 0 := by rw [hdiff, Int.sub_self]; rfl
  have CNs := Lib.hid (fun W => show Calls Try.prog 17 #[.agg (val a0.size (pad (byt a0) 16))] W (Gives2 W (.int .u64 nv)) from by have := number_any a0.size (pad (byt a0) 16) W (pad_length _ _ (by rw [byt_length]; exact h16)) (wf_pad 16 (byt_wf a0)); rwa [hnv] at this)
  have CNt := Lib.hid (fun W => show Calls Try.prog 17 #[.agg (val a0.size (pad (byt t) 16))] W (Gives2 W (.int .u64 nw)) from by have := number_any a0.size (pad (byt t) 16) W (pad_length _ _ (by rw [byt_length, hts]; exact h16)) (wf_pad 16 (byt_wf t)); rwa [hnw] at this)
  replace hts := Lib.hid hts
  clear ht hnv hnw
  clear hdiff
  replace sz2 := Lib.hid sz2
  clear rd bl hl2 sz1
  have k0 : (0 : Int) < a0.size := by omega
  have k1 : ¬ (a0.size : Int) > 16 := by omega
  have k2 : ¬ (a0.size : Int) = 0 := by omega
  have k3 : -(K : Int) < 0 := by omega
  have k4 : (K : Int) < a0.size := by omega
  have k6 : (8 : Int) ≤ K := by omega
  have k5 : (0 : Int) ≤ K := by omega
  clear h16
  go_enter Try.func7, Try.ntmps7
  go_wp2_with fail
  rw [hW2.out]
  refine (COf.out _).mono ?_
  rintro e w3 ⟨rfl, h3⟩
  go_wp2_with (refine wpl_alloc run_alloc24 rfl rfl ?_)
  intro W4 g4 b4 s4
  go_wp2_with (refine wpl_store 24 (.tmp 9) (.tmp 40) rfl rfl _ (val a0.size (pad (byt a0) 16)) rfl rfl 24 _ g4 (by rw [T0.out]; exact size24) (S0.out.trans T0.out.symm) (val_one _ _) ?_)
  intro W5 g5 b5 s5
  have rd5 := (((rd2.out.below (h3.mono (by have := sz2.out; omega))).below (b4.mono (by have := h3.size; have := sz2.out; omega))).grown b5 (by have := h3.size; have := sz2.out; omega) (by intro g hg; have := h3.size; have := sz2.out; simp at hg; omega))
  have z5 : Below w.heap.size w W5 := Below.of_grown ((bl2.out.trans (h3.mono (by have := sz2.out; omega))).trans (b4.mono (by have := h3.size; have := sz2.out; omega))) b5 (by have := h3.size; have := sz2.out; omega) (by have := h3.size; have := sz2.out; omega)
  have q5 : w.heap.size + 1 ≤ w3.heap.size := by have := h3.size; have := sz2.out; omega
  have q5' : W5.heap.size = w3.heap.size + 1 := by omega
  generalize hB1 : w3.heap.size = B1
  rw [hB1] at g5 q5 q5'
  clear h3 b4 b5 s4 s5 g4 hB1
  have hst := run_str (P := Try.prog) 41 5 9 cap Try.underlying41 Try.underlying5 Try.underlying9 rd5
  rw [byt_length, hts.out, str_byt] at hst
  go_wp2_with fail
  refine (COt.out _).mono ?_
  rintro e w6 ⟨rfl, h6⟩
  have g6 := row_below g5 h6 (by omega)
  have l6 := row_lt g6
  have z6 := z5.trans (h6.mono (by omega))
  go_wp2_with (refine wpl_alloc run_alloc24 rfl rfl ?_)
  intro W7 g7 b7 s7
  have g70 := row_below g6 b7 l6
  go_wp2_with (refine wpl_store 24 (.tmp 11) (.tmp 46) rfl rfl _ (val a0.size (pad (byt t) 16)) rfl rfl 24 _ g7 (by rw [T1.out]; exact size24) (S0.out.trans T1.out.symm) (val_one _ _) ?_)
  intro W8 g8 b8 s8
  have g80 := row_grown g70 b8 (Nat.ne_of_lt l6)
  have z8 : Below w.heap.size w W8 := Below.of_grown (z6.trans (b7.mono (by omega))) b8 (by omega) (by omega)
  have q8 : w.heap.size ≤ W8.heap.size := by omega
  generalize hB2 : w6.heap.size = B2
  rw [hB2] at g8
  have I : W8.drew.heap[B2]? = some (.cells (val a0.size (pad (byt t) 16)) 24 (0, 0)) ∧ W8.drew.heap[B1]? = some (.cells (val a0.size (pad (byt a0) 16)) 24 (0, 0)) ∧ Below w.heap.size w W8.drew ∧ w.heap.size ≤ W8.drew.heap.size := ⟨g8, g80, z8.drew, q8⟩
  clear g6 l6 z6 g7 b7 s7 g70 b8 s8 g80 z8 q8 g8 hB2 h6 hst rd5 z5 q5 q5' g5 rd2 bl2 fz ce hcv hm
  have t0 := T0.out
  have t1 := T1.out
  go_wp2
  go_region_held3 (fun W => W.heap[B2]? = some (.cells (val a0.size (pad (byt t) 16)) 24 (0, 0)) ∧ W.heap[B1]? = some (.cells (val a0.size (pad (byt a0) 16)) 24 (0, 0)) ∧ Below w.heap.size w W ∧ w.heap.size ≤ W.heap.size) (first | exact keep2 (by assumption) (by assumption) | exact I)
    (first
      | (go_at_call_of 17 (Value.agg (val a0.size (pad (byt t) 16))); refine (CNt.out _).mono ?_; rintro e wx ⟨rfl, hx⟩)
      | (go_at_call_of 17 (Value.agg (val a0.size (pad (byt a0) 16))); refine (CNs.out _).mono ?_; rintro e wx ⟨rfl, hx⟩))
  all_goals (go_wp2_with (go_at_call 8; refine (awake _).mono ?_; rintro e wy ⟨rfl, hy⟩))
  all_goals go_ret
  all_goals exact ⟨rfl, (held2 (by assumption)).trans (hy.mono (size2 (by assumption)))⟩
set_option maxHeartbeats 400000 in
theorem valueBytes_walk (w : World) (a0 : ByteArray) (w0 : a0.size ≤ maxLen) (a1 : Int) (w1 : (Lit.int .i64 a1).wf = true) (a2 : Int) (w2 : (Lit.int .u8 a2).wf = true) :
    Calls Try.prog 7 #[.string a0, .int .i64 a1, .int .u8 a2] w fun e w' => e = .returned (.bool true) ∧ Below w.heap.size w w' := by
  have hx : 0 ≤ a2 ∧ a2 < 256 := by have := bounds_u8 w2; omega
  by_cases m0 : (a0.size : Int) > 16
  · clear w0 w1 w2
    go_enter Try.func7, Try.ntmps7
    go_wp2_with (go_at_call 8; refine (awake _).mono ?_; rintro e w9 ⟨rfl, h9⟩)
    go_ret
    exact ⟨rfl, h9⟩
  by_cases m1 : (a0.size : Int) = 0
  · clear w0 w1 w2
    go_enter Try.func7, Try.ntmps7
    go_wp2_with (go_at_call 8; refine (awake _).mono ?_; rintro e w9 ⟨rfl, h9⟩)
    go_ret
    exact ⟨rfl, h9⟩
  have h16 : a0.size ≤ 16 := by omega
  have hpos : (0 : Int) < a0.size := by omega
  by_cases hn : 0 ≤ a1
  · have hm := tm_pos (a0.size : Int) hn
    have hb1 := Int.emod_nonneg a1 (by omega : (a0.size : Int) ≠ 0)
    have hb2 := Int.emod_lt_of_pos a1 hpos
    obtain ⟨K, hK⟩ := Int.eq_ofNat_of_zero_le hb1
    rw [hK] at hm hb2
    by_cases h8 : K < 8
    · exact bytes_lo w a0 a1 a2 K (by omega) h16 hx hm h8
    · exact bytes_hi w a0 a1 a2 K (by omega) h16 hx hm (by omega)
  · have hm := tm_neg (a0.size : Int) (show a1 < 0 by omega)
    have hb1 := Int.emod_nonneg (-a1) (by omega : (a0.size : Int) ≠ 0)
    have hb2 := Int.emod_lt_of_pos (-a1) hpos
    obtain ⟨K, hK⟩ := Int.eq_ofNat_of_zero_le hb1
    rw [hK] at hm hb2
    by_cases hp : 0 < K
    · by_cases h8 : K < 8
      · exact bytes_lo_neg w a0 a1 a2 K (by omega) h16 hx hm hp h8
      · exact bytes_hi_neg w a0 a1 a2 K (by omega) h16 hx hm hp (by omega)
    · have h0 : K = 0 := by omega
      subst h0
      exact bytes_lo w a0 a1 a2 0 (by omega) h16 hx (by rw [hm]; rfl) (by omega)
end Go.Proofs.Ytniipochjgmclaa
