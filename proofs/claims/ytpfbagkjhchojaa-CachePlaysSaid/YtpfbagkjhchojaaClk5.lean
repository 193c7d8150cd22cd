
/- Layer 15: the reference's Sweep. -/
import Derived.Test.YtpfbagkjhchojaaClk4
set_option linter.unusedVariables false
namespace Go.Proofs.Ytpfbagkjhchojaa
open Go.RowKit Go.Shelf

set_option maxHeartbeats 1000000 in
theorem rsweep_no (A0 A1 : Option Addr) (c0 c1 m n : Nat) (hand : Int) (w : World) (hn : n ≤ 65536) (h : n = 0 ∨ m ≠ n) :
    Calls Try.prog 49 #[.slice A0 n c0, .slice A1 m c1, .int .i64 hand] w fun e w' => e = .returned (.tuple #[.int .i64 (-1), .int .i64 0, .slice none 0 0]) ∧ Below w.heap.size w w' := by
  by_cases h0 : n = 0
  · subst h0
    clear h hn
    go_enter Try.func49, Try.ntmps49
    go_wp2
    go_ret3
    exact ⟨rfl, Below.refl _ _⟩
  · have h1 : ((n : Int) == 0) = false := by simp; omega
    have h2 : ((m : Int) != (n : Int)) = true := by simp; omega
    clear h h0
    go_enter Try.func49, Try.ntmps49
    go_wp2
    go_ret3
    exact ⟨rfl, Below.refl _ _⟩
set_option maxHeartbeats 2000000 in
theorem rsweep_pos (B : Nat) (A0 A1 : Option Addr) (c0 c1 : Nat) (cs rs : List Bool) (hand : Int) (n : Nat) (w : World) (hn : n ≤ 65536) (hp : 0 < n) (h0 : cs.length = n) (h1 : rs.length = n)
    (hr0 : Rd w B A0 (cs.map .bool)) (hr1 : Rd w B A1 (rs.map .bool)) (hB : B ≤ w.heap.size) (h : Nat) (hlt : h < n) (hm : hand.tmod (n : Int) = h) :
    Calls Try.prog 49 #[.slice A0 n c0, .slice A1 n c1, .int .i64 hand] w fun e w' => ∃ v, e = .returned (swept h (scan cs (upto (spot n h hp) (2 * n)) rs).1 v) ∧
      w'.ownsRow w.heap.size 4 1 v n ((scan cs (upto (spot n h hp) (2 * n)) rs).2.map .bool) ∧ Below w.heap.size w w' := by
  obtain ⟨a0, off0, rfl, hb0, hc0⟩ := hr0 (by intro h'; rw [List.map_eq_nil_iff] at h'; subst h'; simp at h0; omega)
  have HA := Lib.hid hc0
  have HR1 := Lib.hid hr1
  clear hc0 hr0 hr1
  have k0 : ¬ (n : Int) = 0 := by omega
  have k1 : ¬ (h : Int) < 0 := by omega
  have hown : (w.alloc (.cells #[] 4)).ownsRow w.heap.size 4 1 (.slice (some ⟨w.heap.size, 0, none⟩) 0 0) 0 [] := ⟨rfl, .inr ⟨w.heap.size, 0, #[], rfl, Nat.le_refl _, heap_alloc_new w _, Nat.le_refl _, Nat.zero_le _, rfl, rfl⟩⟩
  go_enter Try.func49, Try.ntmps49
  go_wp2_with (at_builtin; refine wpl_app appB rfl (.tmp 32) (.tmp 33) rfl w.heap.size _ 0 [] rfl hown B _ n c1 (rs.map .bool) rfl (by simp [h1]) (HR1.out.alloc hB _) (bools_one _) (by unfold maxLen; omega) (by omega) (by simp) ?_; intro v1 w1 hown1 hg1 hat1)
  have hb1 : Below w.heap.size w w1 := ((Below.refl _ _).alloc (Nat.le_refl _) _).grown hg1 (by simp) (fun k hk => by cases hk; exact Nat.le_refl _)
  simp only [Nat.zero_add, List.nil_append] at hown1
  obtain ⟨g, cap, rfl, hgb, hgl⟩ := hown1.form hp
  clear hg1 hat1 hown hgl
  go_loopw [12, 13] (fun i k wr => ∃ j : Nat, j ≤ 2 * n ∧ i = .int .i64 j ∧ ∃ lf : List Bool, Hid (scan cs (upto (spot n h hp) j) rs = (none, lf)) ∧ Hid (wr.ownsRow w.heap.size 4 1 (.slice (some ⟨g, 0, none⟩) n cap) n (lf.map .bool)) ∧ Hid (Below w.heap.size w wr)) (fun i _ _ => 2 * n - (intOf i).toNat)
  case atStart => exact ⟨0, Nat.zero_le _, rfl, rs, Lib.hid rfl, Lib.hid hown1, Lib.hid hb1⟩
  case round =>
    obtain ⟨j, hj, rfl, lf, hsc, qo, hB2⟩ := hrel
    clear hown1 hb1
    by_cases hjl : j < 2 * n
    · have e3 : (((spot n h hp j).val : Nat) : Int) = ((h : Int) + (j : Int)) % (n : Int) := by simp [spot]
      have hx := (spot n h hp j).isLt
      have s := Lib.hid (scan_snoc (x := spot n h hp j) hsc.out)
      rw [← upto_succ] at s
      generalize spot n h hp j = x at e3 hx s
      have hll : lf.length = n := by have := qo.out.1; simpa using this
      have ccan : wr.cell? ⟨a0, off0 + x.val, none⟩ = some (.bool (cs[x.val]?.getD false)) := (hB2.out.cell (p := ⟨a0, off0 + x.val, none⟩) (by show a0 < w.heap.size; omega)).trans (HA.out x.val _ (by rw [List.getElem?_map, List.getElem?_eq_getElem (by omega)]; rfl))
      have cl : wr.cell? ⟨g, x.val, none⟩ = some (.bool (lf[x.val]?.getD false)) := by
        rw [qo.out.cellAt x.val (by omega), List.getElem?_map, List.getElem?_eq_getElem (by omega)]; rfl
      have fl := qo.out.frozenAt x.val
      have hst := Lib.hid (qo.out.stored x.val (.bool false))
      have ht : ((h : Int) + (j : Int)).tmod (n : Int) = ((x.val : Nat) : Int) := by rw [e3]; exact Int.tmod_eq_emod_of_nonneg (by omega)
      have ht2 : ((h : Int) + (j : Int)) % (n : Int) = ((x.val : Nat) : Int) := e3.symm
      have x0 : (0 : Int) ≤ ((x.val : Nat) : Int) := by omega
      have x1 : ((x.val : Nat) : Int) < (n : Int) := by omega
      generalize cs[x.val]?.getD false = bc at ccan s
      generalize lf[x.val]?.getD false = bl at cl s
      clear e3
      cases bc with
      | false =>
        go_wp2
        go_roundw
        case rel => exact ⟨j + 1, by omega, by go_num, lf, by simpa using s, qo, hB2⟩
        case measure => simp [intOf]; omega
      | true =>
        cases bl with
        | true =>
          go_wp2
          go_roundw
          case rel => exact ⟨j + 1, by omega, by go_num, lf.set x.val false, by simpa using s, Lib.hid (by rw [List.map_set]; exact hst.out.1), Lib.hid (hB2.out.setCell (p := ⟨g, x.val, none⟩) hgb _)⟩
          case measure => simp [intOf]; omega
        | false =>
          go_wp2
          go_region
          go_wp2
          go_ret3
          obtain ⟨r, hr⟩ := upto_split (spot n h hp) (show j + 1 ≤ 2 * n by omega)
          have hs : scan cs (upto (spot n h hp) (2 * n)) rs = (some x, lf) := by
            have s' := s.out
            simp only [if_true, Bool.false_eq_true, if_false] at s'
            rw [hr, scan_append, s']
          rw [hs]
          exact ⟨.slice (some ⟨g, 0, none⟩) n cap, by simp [swept], qo.out, hB2.out.drew⟩
    · obtain rfl : j = 2 * n := by omega
      go_wp2
      go_ret3
      rw [hsc.out]
      exact ⟨_, rfl, qo.out, hB2.out⟩
set_option maxHeartbeats 2000000 in
theorem rsweep_neg (B : Nat) (A0 A1 : Option Addr) (c0 c1 : Nat) (cs rs : List Bool) (hand : Int) (n : Nat) (w : World) (hn : n ≤ 65536) (hp : 0 < n) (h0 : cs.length = n) (h1 : rs.length = n)
    (hr0 : Rd w B A0 (cs.map .bool)) (hr1 : Rd w B A1 (rs.map .bool)) (hB : B ≤ w.heap.size) (h : Nat) (hlt : h < n) (hm : hand.tmod (n : Int) < 0) (hm2 : hand.tmod (n : Int) + (n : Int) = h) :
    Calls Try.prog 49 #[.slice A0 n c0, .slice A1 n c1, .int .i64 hand] w fun e w' => ∃ v, e = .returned (swept h (scan cs (upto (spot n h hp) (2 * n)) rs).1 v) ∧
      w'.ownsRow w.heap.size 4 1 v n ((scan cs (upto (spot n h hp) (2 * n)) rs).2.map .bool) ∧ Below w.heap.size w w' := by
  obtain ⟨a0, off0, rfl, hb0, hc0⟩ := hr0 (by intro h'; rw [List.map_eq_nil_iff] at h'; subst h'; simp at h0; omega)
  have HA := Lib.hid hc0
  have HR1 := Lib.hid hr1
  clear hc0 hr0 hr1
  have k0 : ¬ (n : Int) = 0 := by omega
  have k1 : ¬ (h : Int) < 0 := by omega
  have hown : (w.alloc (.cells #[] 4)).ownsRow w.heap.size 4 1 (.slice (some ⟨w.heap.size, 0, none⟩) 0 0) 0 [] := ⟨rfl, .inr ⟨w.heap.size, 0, #[], rfl, Nat.le_refl _, heap_alloc_new w _, Nat.le_refl _, Nat.zero_le _, rfl, rfl⟩⟩
  go_enter Try.func49, Try.ntmps49
  go_wp2_with (at_builtin; refine wpl_app appB rfl (.tmp 32) (.tmp 33) rfl w.heap.size _ 0 [] rfl hown B _ n c1 (rs.map .bool) rfl (by simp [h1]) (HR1.out.alloc hB _) (bools_one _) (by unfold maxLen; omega) (by omega) (by simp) ?_; intro v1 w1 hown1 hg1 hat1)
  have hb1 : Below w.heap.size w w1 := ((Below.refl _ _).alloc (Nat.le_refl _) _).grown hg1 (by simp) (fun k hk => by cases hk; exact Nat.le_refl _)
  simp only [Nat.zero_add, List.nil_append] at hown1
  obtain ⟨g, cap, rfl, hgb, hgl⟩ := hown1.form hp
  clear hg1 hat1 hown hgl
  go_loopw [12, 13] (fun i k wr => ∃ j : Nat, j ≤ 2 * n ∧ i = .int .i64 j ∧ ∃ lf : List Bool, Hid (scan cs (upto (spot n h hp) j) rs = (none, lf)) ∧ Hid (wr.ownsRow w.heap.size 4 1 (.slice (some ⟨g, 0, none⟩) n cap) n (lf.map .bool)) ∧ Hid (Below w.heap.size w wr)) (fun i _ _ => 2 * n - (intOf i).toNat)
  case atStart => exact ⟨0, Nat.zero_le _, rfl, rs, Lib.hid rfl, Lib.hid hown1, Lib.hid hb1⟩
  case round =>
    obtain ⟨j, hj, rfl, lf, hsc, qo, hB2⟩ := hrel
    clear hown1 hb1
    by_cases hjl : j < 2 * n
    · have e3 : (((spot n h hp j).val : Nat) : Int) = ((h : Int) + (j : Int)) % (n : Int) := by simp [spot]
      have hx := (spot n h hp j).isLt
      have s := Lib.hid (scan_snoc (x := spot n h hp j) hsc.out)
      rw [← upto_succ] at s
      generalize spot n h hp j = x at e3 hx s
      have hll : lf.length = n := by have := qo.out.1; simpa using this
      have ccan : wr.cell? ⟨a0, off0 + x.val, none⟩ = some (.bool (cs[x.val]?.getD false)) := (hB2.out.cell (p := ⟨a0, off0 + x.val, none⟩) (by show a0 < w.heap.size; omega)).trans (HA.out x.val _ (by rw [List.getElem?_map, List.getElem?_eq_getElem (by omega)]; rfl))
      have cl : wr.cell? ⟨g, x.val, none⟩ = some (.bool (lf[x.val]?.getD false)) := by
        rw [qo.out.cellAt x.val (by omega), List.getElem?_map, List.getElem?_eq_getElem (by omega)]; rfl
      have fl := qo.out.frozenAt x.val
      have hst := Lib.hid (qo.out.stored x.val (.bool false))
      have ht : ((h : Int) + (j : Int)).tmod (n : Int) = ((x.val : Nat) : Int) := by rw [e3]; exact Int.tmod_eq_emod_of_nonneg (by omega)
      have ht2 : ((h : Int) + (j : Int)) % (n : Int) = ((x.val : Nat) : Int) := e3.symm
      have x0 : (0 : Int) ≤ ((x.val : Nat) : Int) := by omega
      have x1 : ((x.val : Nat) : Int) < (n : Int) := by omega
      generalize cs[x.val]?.getD false = bc at ccan s
      generalize lf[x.val]?.getD false = bl at cl s
      clear e3
      cases bc with
      | false =>
        go_wp2
        go_roundw
        case rel => exact ⟨j + 1, by omega, by go_num, lf, by simpa using s, qo, hB2⟩
        case measure => simp [intOf]; omega
      | true =>
        cases bl with
        | true =>
          go_wp2
          go_roundw
          case rel => exact ⟨j + 1, by omega, by go_num, lf.set x.val false, by simpa using s, Lib.hid (by rw [List.map_set]; exact hst.out.1), Lib.hid (hB2.out.setCell (p := ⟨g, x.val, none⟩) hgb _)⟩
          case measure => simp [intOf]; omega
        | false =>
          go_wp2
          go_region
          go_wp2
          go_ret3
          obtain ⟨r, hr⟩ := upto_split (spot n h hp) (show j + 1 ≤ 2 * n by omega)
          have hs : scan cs (upto (spot n h hp) (2 * n)) rs = (some x, lf) := by
            have s' := s.out
            simp only [if_true, Bool.false_eq_true, if_false] at s'
            rw [hr, scan_append, s']
          rw [hs]
          exact ⟨.slice (some ⟨g, 0, none⟩) n cap, by simp [swept], qo.out, hB2.out.drew⟩
    · obtain rfl : j = 2 * n := by omega
      go_wp2
      go_ret3
      rw [hsc.out]
      exact ⟨_, rfl, qo.out, hB2.out⟩

/-- The reference's Sweep. -/
theorem rsweep_yes (B : Nat) (A0 A1 : Option Addr) (c0 c1 : Nat) (cs rs : List Bool) (hand : Int) (n : Nat) (w : World) (hn : n ≤ 65536) (hp : 0 < n) (h0 : cs.length = n) (h1 : rs.length = n)
    (hr0 : Rd w B A0 (cs.map .bool)) (hr1 : Rd w B A1 (rs.map .bool)) (hB : B ≤ w.heap.size) (h : Nat) (hh : hand % (n : Int) = h) :
    Calls Try.prog 49 #[.slice A0 n c0, .slice A1 n c1, .int .i64 hand] w fun e w' => ∃ v, e = .returned (swept h (scan cs (upto (spot n h hp) (2 * n)) rs).1 v) ∧
      w'.ownsRow w.heap.size 4 1 v n ((scan cs (upto (spot n h hp) (2 * n)) rs).2.map .bool) ∧ Below w.heap.size w w' := by
  have hlt : h < n := by have := Int.emod_lt_of_pos hand (show (0 : Int) < n by omega); omega
  by_cases hs : 0 ≤ hand
  · exact rsweep_pos B A0 A1 c0 c1 cs rs hand n w hn hp h0 h1 hr0 hr1 hB h hlt (by rw [Int.tmod_eq_emod_of_nonneg hs, hh])
  · have ht := tm_neg (n : Int) (show hand < 0 by omega)
    have hd := Int.emod_add_mul_ediv (-hand) (n : Int)
    have hq : hand % (n : Int) = (-(-hand % (n : Int))) % (n : Int) := by
      rw [show -(-hand % (n : Int)) = hand + (n : Int) * (-hand / (n : Int)) from by omega, Int.add_mul_emod_self_left]
    have b1 := Int.emod_nonneg (-hand) (show (n : Int) ≠ 0 by omega)
    have b2 := Int.emod_lt_of_pos (-hand) (show (0 : Int) < n by omega)
    by_cases hz : -hand % (n : Int) = 0
    · exact rsweep_pos B A0 A1 c0 c1 cs rs hand n w hn hp h0 h1 hr0 hr1 hB h hlt (by rw [ht, hz] ; rw [hz] at hq; simp at hq; simp; omega)
    · refine rsweep_neg B A0 A1 c0 c1 cs rs hand n w hn hp h0 h1 hr0 hr1 hB h hlt (by omega) ?_
      have hq2 : (-(-hand % (n : Int))) % (n : Int) = -(-hand % (n : Int)) + n := by
        rw [← Int.add_emod_right, Int.emod_eq_of_lt (by omega) (by omega)]
      omega
end Go.Proofs.Ytpfbagkjhchojaa
