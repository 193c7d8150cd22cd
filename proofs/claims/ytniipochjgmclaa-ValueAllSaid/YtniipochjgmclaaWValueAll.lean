
/- The walk of the law ValueAll. -/
import Derived.Test.YtniipochjgmclaaVal9
import Derived.Deep.DeepCutAuto
set_option linter.unusedVariables false
namespace Go.Proofs.Ytniipochjgmclaa
open Go.RowKit Go.ChangeShapes Go.ChangeAt Go.WideShapes
attribute [local go_sem ↓] load24
attribute [local go_sem] rowOf loadOf

def kinds_1 : List Sc := Sc.i .i64 :: List.replicate 16 (Sc.i .u8)

theorem of_both (s : ByteArray) : ∃ (m e : Int) (cs : List Int), (Lit.int .i64 m).wf = true ∧ (0 ≤ e ∧ e ≤ 2) ∧ cs.length = 16 ∧ (∀ b ∈ cs, (Lit.int .u8 b).wf = true) ∧
    ∀ W, Calls Try.prog 9 #[.string s] W (Gives2 W (.tuple #[.agg (val m cs), .int .i64 e])) ∧ Calls Try.prog 10 #[.string s] W (Gives2 W (.tuple #[.agg (val m cs), .int .i64 e])) := by
  by_cases h : s.size ≤ 16
  · exact ⟨s.size, 0, pad (byt s) 16, wf_nat16 h, by decide, pad_length _ _ (by rw [byt_length]; exact h), wf_pad 16 (byt_wf s), fun W => ⟨vof_ok s W h, rof_ok s W h⟩⟩
  · exact ⟨0, 2, val0, by decide, by decide, by decide, by decide, fun W => ⟨vof_big s W (by omega), rof_big s W (by omega)⟩⟩

theorem text_both (n : Int) (bs : List Int) (hb : bs.length = 16) (wb : ∀ b ∈ bs, (Lit.int .u8 b).wf = true) : ∃ t : ByteArray,
    ∀ W, Calls Try.prog 13 #[.agg (val n bs)] W (Gives2 W (.string t)) ∧ Calls Try.prog 14 #[.agg (val n bs)] W (Gives2 W (.string t)) := by
  cases hv : vcheck n bs with
  | false => exact ⟨_, fun W => ⟨text_no n bs W hb wb hv, rtext_no n bs W hb hv⟩⟩
  | true =>
    have h : 0 ≤ n ∧ n ≤ 16 ∧ pad (bs.take n.toNat) 16 = bs := by simpa [vcheck] using hv
    obtain ⟨k, rfl⟩ := Int.eq_ofNat_of_zero_le h.1
    have hk : k ≤ 16 := by omega
    exact ⟨_, fun W => ⟨text_yes k bs W hb wb hk hv, rtext_yes k bs W hb hk hv⟩⟩

theorem skip1 {P : Program} {md : Region.Mode} {ops : Array Oper} {Q : Exit → Act → World → Prop} {S : World → Prop} {i : Nat} {oi : Oper} {fuel : Nat} {listed : Array Bool} {a : Act} {w : World} (hi : ops[i]? = some oi)
    (hs : Region.noSelect ops = true) (hf : Region.free md ops listed i = true) (hr : (Region.ready md ops listed).contains i = true)
    (hQ : ∀ c a w, Q (.panic c) (a.put oi.dst undef) w → Q (.panic c) a w) (hw : Region.wanted oi (yielded ops a.tmps) = false) (hp : a.put oi.dst undef = a) (hS : S w)
    (h : wpAnyH P md ops Q S fuel (listed.setIfInBounds i true) a w) : wpAnyH P md ops Q S (fuel + 1) listed a w :=
  wpAnyH_take hi hs hf hr hQ (Or.inr ⟨hw, rfl⟩) hS (by rw [hp]; exact h)
theorem take1 {P : Program} {md : Region.Mode} {l : List Oper} {Q : Exit → Act → World → Prop} {S : World → Prop} {i : Nat} {oi : Oper} (v : Value) {fuel : Nat} {listed : Array Bool} {a : Act} {w : World} (hi : l[i]? = some oi)
    (hs : Region.noSelect l.toArray = true) (hf : Region.free md l.toArray listed i = true) (hr : (Region.ready md l.toArray listed).contains i = true)
    (hQ : ∀ c a w, Q (.panic c) (a.put oi.dst v) w → Q (.panic c) a w) (hw : Region.wanted oi (yielded l.toArray a.tmps) = true) (hS : S w) (hy : ∀ w, S w → (execOp a.eval oi).run P w = .ok (.value v) w)
    (h : wpAnyH P md l.toArray Q S fuel (listed.setIfInBounds i true) (a.put oi.dst v) w) : wpAnyH P md l.toArray Q S (fuel + 1) listed a w :=
  wpAnyH_take (by rw [List.getElem?_toArray]; exact hi) hs hf hr hQ (Or.inl ⟨hw, hy⟩) hS h
theorem all3 {W W0 : World} {B B2 B3 B0 : Nat} {ob o2 o3 : Obj} (h : W.heap[B]? = some ob ∧ W.heap[B2]? = some o2 ∧ W.heap[B3]? = some o3 ∧ Below B0 W0 W ∧ B0 ≤ W.heap.size) : W.heap[B]? = some ob ∧ Below B0 W0 W ∧ B0 ≤ W.heap.size := ⟨h.1, h.2.2.2.1, h.2.2.2.2⟩

set_option maxHeartbeats 4000000 in
theorem valueAll_walk (w : World) (a0 : ByteArray) (w0 : a0.size ≤ maxLen) (x1 : Array Value) (kk1 : Kinds kinds_1 x1.toList) (a2 : Int) (w2 : (Lit.int .u64 a2).wf = true) :
    Calls Try.prog 3 #[.string a0, .agg x1, .int .u64 a2] w fun e w' => e = .returned (.bool true) ∧ Below w.heap.size w w' := by
  obtain ⟨n, bs, rfl, hn, hl, hbs⟩ := kinds_mk x1 kk1
  obtain ⟨y0, y1⟩ := bounds_u64 w2
  clear kk1 w2
  by_cases m0 : (a0.size : Int) > 100
  · clear w0 y0 y1 hn hl hbs
    go_enter Try.func3, Try.ntmps3
    go_wp2_with fail
    refine (awake _).mono ?_
    rintro e w9 ⟨rfl, h9⟩
    go_wp2
    go_ret
    exact ⟨rfl, ((Below.refl w.heap.size w).alloc (Nat.le_refl _) _).trans (h9.mono (by simp))⟩
  obtain ⟨m, e0, cs, hm, he, hcl, hcs, HO⟩ := of_both a0
  have COf := Lib.hid (fun W => (HO W).1)
  have CROf := Lib.hid (fun W => (HO W).2)
  obtain ⟨t, HT⟩ := text_both n bs hl hbs
  have CT := Lib.hid (fun W => (HT W).1)
  have CRT := Lib.hid (fun W => (HT W).2)
  obtain ⟨b, hb⟩ : ∃ b, vcheck n bs = b := ⟨_, rfl⟩
  have CC := Lib.hid (fun W => show Calls Try.prog 11 #[.agg (val n bs)] W (Gives2 W (.bool b)) from by have := check_any n bs W hl hbs; rwa [hb] at this)
  have CRC := Lib.hid (fun W => show Calls Try.prog 12 #[.agg (val n bs)] W (Gives2 W (.bool b)) from by have := rcheck_any n bs W hl; rwa [hb] at this)
  have CF := Lib.hid (fun W => from_any a2 W y0)
  have CRF := Lib.hid (fun W => rfrom_any a2 W y0 (by omega))
  have CN := Lib.hid (fun W => number_any n bs W hl hbs)
  have CRN := Lib.hid (fun W => rnumber_any n bs W hl hbs)
  have CP := Lib.hid (fun W => plus_any n bs a2 W hl hbs)
  have CRP := Lib.hid (fun W => rplus_any n bs a2 W hl hbs)
  obtain ⟨c, hc⟩ : ∃ c, num (bs.take 8) = c := ⟨_, rfl⟩
  rw [hc] at CN CRN CP CRP
  obtain ⟨r, hr⟩ : ∃ r, IntKind.u64.wrap (c + a2) = r := ⟨_, rfl⟩
  rw [hr] at CP CRP
  have E0 := Lib.hid (fun W => eq_self m cs hm hcl hcs W)
  have E1 := Lib.hid (fun W => eq_from a2 W)
  have E2 := Lib.hid (fun W => eq_from r W)
  have S0 := Lib.hid (show (val 0 val0).size = 17 by decide)
  have T0 := Lib.hid (val_size n bs hl)
  have T1 := Lib.hid (val_size m cs hcl)
  have gB := Lib.hid (heap_alloc_new w (Obj.cells (val n bs) 24))
  have bB := Lib.hid ((Below.refl w.heap.size w).alloc (Nat.le_refl _) (Obj.cells (val n bs) 24))
  have sB : Hid ((w.alloc (Obj.cells (val n bs) 24)).heap.size = w.heap.size + 1) := Lib.hid (by simp)
  clear HO HT hb hc hr hm hcl hcs hn hl hbs y0 y1 w0 he
  go_enter Try.func3, Try.ntmps3
  go_wp2_with fail
  refine (COf.out _).mono ?_
  rintro e w1 ⟨rfl, h1⟩
  have g1 := row_below gB.out h1 (by rw [sB.out]; omega)
  have Z1 := Lib.hid (bB.out.trans (h1.mono bB.out.size))
  clear h1 gB bB sB
  have l1 := Lib.hid (row_lt g1)
  generalize hB0 : w.heap.size = B0
  rw [hB0] at g1 l1 Z1
  go_wp2_with (refine wpl_alloc run_alloc24 rfl rfl ?_)
  intro W2 g2 b2 s2
  have g20 := row_below g1 b2 l1.out
  go_wp2_with (refine wpl_store 24 (.tmp 7) (.tmp 18) rfl rfl _ (val m cs) rfl rfl 24 _ g2 (by rw [T1.out]; exact size24) (S0.out.trans T1.out.symm) (val_one _ _) ?_)
  intro W3 g3 b3 s3
  have g30 := row_grown g20 b3 (Nat.ne_of_lt l1.out)
  have Z2 := Lib.hid (Below.of_grown (Z1.out.trans (b2.mono (by have := l1.out; omega))) b3 (by have := l1.out; omega) (by have := l1.out; omega))
  have s3' : Hid (W3.heap.size = w1.heap.size + 1) := Lib.hid (by omega)
  generalize hB1 : w1.heap.size = B1
  rw [hB1] at g3 l1 s3'
  clear g1 Z1 g2 b2 s2 g20 b3 s3 hB1
  have l3 := Lib.hid (row_lt g3)
  have l30 := Lib.hid (row_lt g30)
  go_wp2_with fail
  refine (CROf.out _).mono ?_
  rintro e w4 ⟨rfl, h4⟩
  have g40 := row_below g30 h4 l30.out
  have g41 := row_below g3 h4 l3.out
  have l40 := Lib.hid (row_lt g40)
  have l41 := Lib.hid (row_lt g41)
  have Z4 := Lib.hid (Z2.out.trans (h4.mono (by have := l1.out; have := s3'.out; omega)))
  clear g30 g3 h4 Z2
  go_wp2_with (refine wpl_alloc run_alloc24 rfl rfl ?_)
  intro W5 g5 b5 s5
  have g50 := row_below g40 b5 l40.out
  have g51 := row_below g41 b5 l41.out
  go_wp2_with (refine wpl_store 24 (.tmp 9) (.tmp 23) rfl rfl _ (val m cs) rfl rfl 24 _ g5 (by rw [T1.out]; exact size24) (S0.out.trans T1.out.symm) (val_one _ _) ?_)
  intro W6 g6 b6 s6
  have g60 := row_grown g50 b6 (Nat.ne_of_lt l40.out)
  have g61 := row_grown g51 b6 (Nat.ne_of_lt l41.out)
  have Z6 : Below B0 w W6 := Below.of_grown (Z4.out.trans (b5.mono (by have := l40.out; omega))) b6 (by have := l40.out; omega) (by have := l40.out; omega)
  have q6 : B0 ≤ W6.heap.size := by have := l40.out; omega
  generalize hB2 : w4.heap.size = B2
  rw [hB2] at g6
  have I : W6.drew.heap[B0]? = some (.cells (val n bs) 24 (0, 0)) ∧ W6.drew.heap[B1]? = some (.cells (val m cs) 24 (0, 0)) ∧ W6.drew.heap[B2]? = some (.cells (val m cs) 24 (0, 0)) ∧ Below B0 w W6.drew ∧ B0 ≤ W6.drew.heap.size := ⟨g60, g61, g6, Z6.drew, q6⟩
  clear g60 g61 g6 Z6 q6 b6 s6 b5 s5 g5 g50 g51 g40 g41 l40 l41 Z4 l3 l30 l1 s3' hB2
  go_upto_region 5 with fail
  go_cut [53] from 25 to 53 (fun s W => s = .bool false ∧ W.heap[B0]? = some (.cells (val n bs) 24 (0, 0)) ∧ Below B0 w W ∧ B0 ≤ W.heap.size)
  case first =>
    have t0 := T0.out
    have t1 := T1.out
    have E0' := E0.out
    have E1' := E1.out
    go_region_held3 (fun W => W.heap[B0]? = some (.cells (val n bs) 24 (0, 0)) ∧ W.heap[B1]? = some (.cells (val m cs) 24 (0, 0)) ∧ W.heap[B2]? = some (.cells (val m cs) 24 (0, 0)) ∧ Below B0 w W ∧ B0 ≤ W.heap.size) (first | exact keep3 (by assumption) (by assumption) | exact I)
      (first
        | (go_at_call 11; refine (CC.out _).mono ?_; rintro e wx ⟨rfl, hx⟩)
        | (go_at_call 12; refine (CRC.out _).mono ?_; rintro e wx ⟨rfl, hx⟩)
        | (go_at_call 13; refine (CT.out _).mono ?_; rintro e wx ⟨rfl, hx⟩)
        | (go_at_call 14; refine (CRT.out _).mono ?_; rintro e wx ⟨rfl, hx⟩)
        | (go_at_call 15; refine (CF.out _).mono ?_; rintro e wx ⟨rfl, hx⟩)
        | (go_at_call 16; refine (CRF.out _).mono ?_; rintro e wx ⟨rfl, hx⟩))
    all_goals (go_wp2_with fail; go_meet; exact ⟨rfl, all3 (by assumption)⟩)
  case rest =>
    obtain ⟨rfl, I2⟩ := hcut
    obtain ⟨g0, z0, q0⟩ := I2
    have I3 : wc.drew.heap[B0]? = some (.cells (val n bs) 24 (0, 0)) ∧ Below B0 w wc.drew ∧ B0 ≤ wc.drew.heap.size := ⟨g0, z0.drew, q0⟩
    clear g0 z0 q0 I
    subst hB0
    have t0 := T0.out
    have E2' := E2.out
    cases b with
    | false =>
      go_wp2_with fail
      refine wp_region_held_drew (S := fun W => W.heap[w.heap.size]? = some (.cells (val n bs) 24 (0, 0)) ∧ Below w.heap.size w W ∧ w.heap.size ≤ W.heap.size) (by kernel_rfl) I3 (fun hHeld => ?_)
      refine take1 (i := 0) (.agg (val n bs)) rfl (by kernel_rfl) (by kernel_rfl) (by kernel_rfl) (fun _ _ _ h => h) (by rfl) hHeld ?_ ?_
      · intro w hSw
        go_simp
      simp only [Act.put, List.setIfInBounds_toArray, List.set_cons_zero, List.set_cons_succ]
      refine wpAnyH_ready (rs := [1]) (by kernel_rfl) (by simp) ?_
      refine AllReadyH.cons (by rw [List.getElem?_toArray]; rfl) (fun K hK => ?_) AllReadyH.nil
      go_simp
      refine (CRC.out _).mono ?_
      rintro e wx ⟨rfl, hx⟩
      go_simp
      refine hK.out _ _ (keep1 hx hHeld) (fun hH => ?_)
      clear hK K
      try simp only [Act.put, List.setIfInBounds_toArray, List.set_cons_zero, List.set_cons_succ]
      refine take1 (i := 2) (.bool true) rfl (by kernel_rfl) (by kernel_rfl) (by kernel_rfl) (fun _ _ _ h => h) (by rfl) hH ?_ ?_
      · intro w hSw
        go_simp
      try simp only [Act.put, List.setIfInBounds_toArray, List.set_cons_zero, List.set_cons_succ]
      refine take1 (i := 3) (.bool true) rfl (by kernel_rfl) (by kernel_rfl) (by kernel_rfl) (fun _ _ _ h => h) (by rfl) hH ?_ ?_
      · intro w hSw
        go_simp
      try simp only [Act.put, List.setIfInBounds_toArray, List.set_cons_zero, List.set_cons_succ]
      refine skip1 (i := 4) rfl (by kernel_rfl) (by kernel_rfl) (by kernel_rfl) (fun _ _ _ h => h) (by rfl) rfl hH ?_
      refine skip1 (i := 5) rfl (by kernel_rfl) (by kernel_rfl) (by kernel_rfl) (fun _ _ _ h => h) (by rfl) rfl hH ?_
      refine skip1 (i := 6) rfl (by kernel_rfl) (by kernel_rfl) (by kernel_rfl) (fun _ _ _ h => h) (by rfl) rfl hH ?_
      refine skip1 (i := 7) rfl (by kernel_rfl) (by kernel_rfl) (by kernel_rfl) (fun _ _ _ h => h) (by rfl) rfl hH ?_
      refine skip1 (i := 8) rfl (by kernel_rfl) (by kernel_rfl) (by kernel_rfl) (fun _ _ _ h => h) (by rfl) rfl hH ?_
      refine skip1 (i := 9) rfl (by kernel_rfl) (by kernel_rfl) (by kernel_rfl) (fun _ _ _ h => h) (by rfl) rfl hH ?_
      refine skip1 (i := 10) rfl (by kernel_rfl) (by kernel_rfl) (by kernel_rfl) (fun _ _ _ h => h) (by rfl) rfl hH ?_
      refine skip1 (i := 11) rfl (by kernel_rfl) (by kernel_rfl) (by kernel_rfl) (fun _ _ _ h => h) (by rfl) rfl hH ?_
      refine skip1 (i := 12) rfl (by kernel_rfl) (by kernel_rfl) (by kernel_rfl) (fun _ _ _ h => h) (by rfl) rfl hH ?_
      refine skip1 (i := 13) rfl (by kernel_rfl) (by kernel_rfl) (by kernel_rfl) (fun _ _ _ h => h) (by rfl) rfl hH ?_
      refine skip1 (i := 14) rfl (by kernel_rfl) (by kernel_rfl) (by kernel_rfl) (fun _ _ _ h => h) (by rfl) rfl hH ?_
      refine skip1 (i := 15) rfl (by kernel_rfl) (by kernel_rfl) (by kernel_rfl) (fun _ _ _ h => h) (by rfl) rfl hH ?_
      refine skip1 (i := 16) rfl (by kernel_rfl) (by kernel_rfl) (by kernel_rfl) (fun _ _ _ h => h) (by rfl) rfl hH ?_
      refine skip1 (i := 17) rfl (by kernel_rfl) (by kernel_rfl) (by kernel_rfl) (fun _ _ _ h => h) (by rfl) rfl hH ?_
      refine skip1 (i := 18) rfl (by kernel_rfl) (by kernel_rfl) (by kernel_rfl) (fun _ _ _ h => h) (by rfl) rfl hH ?_
      refine skip1 (i := 19) rfl (by kernel_rfl) (by kernel_rfl) (by kernel_rfl) (fun _ _ _ h => h) (by rfl) rfl hH ?_
      refine skip1 (i := 20) rfl (by kernel_rfl) (by kernel_rfl) (by kernel_rfl) (fun _ _ _ h => h) (by rfl) rfl hH ?_
      refine take1 (i := 21) (.bool true) rfl (by kernel_rfl) (by kernel_rfl) (by kernel_rfl) (fun _ _ _ h => h) (by rfl) hH ?_ ?_
      · intro w hSw
        go_simp
      try simp only [Act.put, List.setIfInBounds_toArray, List.set_cons_zero, List.set_cons_succ]
      refine take1 (i := 22) (.bool true) rfl (by kernel_rfl) (by kernel_rfl) (by kernel_rfl) (fun _ _ _ h => h) (by rfl) hH ?_ ?_
      · intro w hSw
        go_simp
      try simp only [Act.put, List.setIfInBounds_toArray, List.set_cons_zero, List.set_cons_succ]
      refine wpAnyH_done (by kernel_rfl) ?_ _
      go_wp2
      go_ret
      exact ⟨rfl, held1 hH⟩
    | true =>
      go_wp2_with fail
      go_region_held3 (fun W => W.heap[w.heap.size]? = some (.cells (val n bs) 24 (0, 0)) ∧ Below w.heap.size w W ∧ w.heap.size ≤ W.heap.size) (first | exact keep1 (by assumption) (by assumption) | exact I3)
        (first
          | (go_at_call 12; refine (CRC.out _).mono ?_; rintro e wx ⟨rfl, hx⟩)
          | (go_at_call 17; refine (CN.out _).mono ?_; rintro e wx ⟨rfl, hx⟩)
          | (go_at_call 18; refine (CRN.out _).mono ?_; rintro e wx ⟨rfl, hx⟩)
          | (go_at_call 19; refine (CP.out _).mono ?_; rintro e wx ⟨rfl, hx⟩)
          | (go_at_call 20; refine (CRP.out _).mono ?_; rintro e wx ⟨rfl, hx⟩)
          | (go_at_call 8; refine (awake _).mono ?_; rintro e wx ⟨rfl, hx⟩))
      all_goals go_wp2
      all_goals go_ret
      all_goals exact ⟨rfl, held1 (by assumption)⟩
end Go.Proofs.Ytniipochjgmclaa
