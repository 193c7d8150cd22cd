/- Part 4 of the proof: texts of my own, laid behind one another. No condition. -/
import Derived.Test.YtloldofjddbjoaaGreatZ3
set_option linter.unusedVariables false
set_option linter.unusedSimpArgs false
set_option maxHeartbeats 8000000
set_option maxRecDepth 100000
namespace Go.Proofs.YtloldofjddbjoaaGreat.Lt
open Go.Sep Go.RowKit Tryz
theorem deletew_spec {v : Value} (l : List Wt) (i : Nat) (hi : i < l.length) (hn : l.length ≤ 65536) : Con Tryz.prog 251 [v, .int .i64 (i : Int), .int .i64 ((i : Int) + 1)] (fun _ => True) [rowE v 241 encW l] (fun v : Value => v) (fun _ => True) (fun v => [rowE v 241 encW (l.eraseIdx i)]) := by
  intro w hE hH
  obtain ⟨bb, oo, cc, rfl⟩ := rd_open (rowE_rd (hH.holds _ (List.mem_cons_self ..))) (show 0 < l.length by omega)
  refine enter (n := 33) (vs := [(.slice (some ⟨bb, oo, none⟩) l.length cc), .int .i64 (i : Int), .int .i64 ((i : Int) + 1)]) (St w (dom [rowE (.slice (some ⟨bb, oo, none⟩) l.length cc) 241 encW l]) [rowE (.slice (some ⟨bb, oo, none⟩) l.length cc) 241 encW l]) func251 I I I (St.init hH) ?_
  refine c_seq (Pre.fact (fun _ h => (h.rd 0 I).cap) ?_)
  intro hcap
  refine Cr I (Ak I (Cs I (Lm I (Lm I (Lm I (Lm I (Lq I (q_lenV I U200 I (Hrd 0 I)) (Lq I (q_slice3 i (i + 1) l.length I U200 Z241 I (Hrd 0 I) I I I I I I (by omega) (by omega) (by omega)) (Ns (Cs I (Lm I (Lm I (Lq I (q_eql I I I) (Nk (Sb 16 false I (decide_eq_false (by omega)) (c_false I (c_skip (Kt (Cs I (Lm I (Lq I (q_lenV I U200 I (Hrd 0 I)) (Ak I (c_seq ?_)))))))))))))))))))))))
  refine D4 [(0,O),(1,O),(2,O),(3,O),(4,O),(5,O),(6,V),(7,O)] [] [(_,O),(_,O),(_,O),(_,O),(_,O),(_,O),(_,V),(_,O)] (fun _ => True) I I I I St.drawn Tt (Dm I (Dm I (Dq I (q_sliceH i I U200 Z241 I I I (by have : l.length ≤ cc := hcap; omega)) (Dm I (Dm I (Dq I (q_sliceL (i + 1) I U200 Z241 I I I (by omega)) (Sv' 22 (vsl (.slice (some ⟨bb, oo, none⟩) l.length cc) encW.sz 0 i) I (by simp [vsl, add_none]) (Sv' 25 (vsl (.slice (some ⟨bb, oo, none⟩) l.length cc) encW.sz (i + 1) l.length) rfl (by by_cases h9 : cc = i + 1 <;> simp [vsl, add_none, h9, encI, encW]) ?_))))))))
  have hcc : l.length ≤ vcap (.slice (some ⟨bb, oo, none⟩) l.length cc) := hcap
  refine d_e I (e_appendIn i I I I U200 U200 Z241 I I (fun _ h => vsl_rd (h.rd 0 I) (lo := i + 1) (hi := l.length) (by omega) (Nat.le_refl _)) (by simp only [List.length_drop, List.length_take]; omega) ?_)
  intro v2 hc2
  refine row_eq (l' := l.eraseIdx i) (by rw [List.take_length, List.eraseIdx_eq_take_drop_succ]) ?_
  have hl2 : (l.eraseIdx i).length = l.length - 1 := by rw [List.length_eraseIdx]; simp; omega
  refine d_held Tt (Das I (d_nil (Kt (Cs I (Lm I (Lm I (Lq I (q_lenV I U200 I (Hrd 0 I)) (Lm I (Lq I (q_sliceC (l.eraseIdx i).length l.length I U200 Z241 I (Hrd 0 I) I I I I (by omega) (by omega)) (l_e I (e_clearTail I I U200 info241 I I (by decide) I (by omega) (by omega) (Nk (Cs I (Lm I (Ak I (c_ret (r_one I I ?_)))))))))))))))))
  exact fun _ h => ⟨v2, rfl, trivial, h⟩
abbrev LT (b : Nat) (vR vQ : Value) (m : La) : List Ent := [cellsE b 275 [.int .i64 m.pins, vR, .int .i64 m.wr, vQ], rowE vR 3 (encI .i64) m.rd, rowE vQ 241 encW m.q]
theorem st_ne4 {w0 w : World} {D : List Nat} {a b : Nat} {T U W : TypeId} {cs us : List Value} {vR vQ : Value} {E : Enc Int} {E2 : Enc Wt} {l : List Int} {q : List Wt} {H : List Ent} {h : St w0 D (cellsE a T cs :: cellsE b U us :: rowE vR W E l :: rowE vQ 241 E2 q :: H) w} : blk vQ ≠ a ∨ q = [] := by
  by_cases hq : q = []
  · exact .inr hq
  refine .inl ?_
  have := h.hp.nodup
  obtain ⟨b', o, c, rfl⟩ := rd_open (rowE_rd (h.at 3 rfl)) (List.length_pos_iff.2 hq)
  intro e
  have h3 : (rowE (.slice (some ⟨b', o, none⟩) q.length c) 241 E2 q).at w := h.at 3 rfl
  have hc : ¬ c = 0 := by
    have := (rowE_rd h3).cap
    have hp := List.length_pos_iff.2 hq
    have h9 : q.length ≤ c := this
    omega
  have ho : ownB (.slice (some ⟨b', o, none⟩) q.length c) = some b' := by simp [ownB, hc]
  have hb : b' = a := e
  subst hb
  simp [Sep.dom, cellsE, rowE, ho] at this
theorem waits_spec {m : La} (hn : m.q.length ≤ 60000) (b : Nat) (vR vQ : Value) (t : Int) : Con Tryz.prog 250 [.pointer (some ⟨b, 0, none⟩), .int .i64 t] (fun _ => True) (LT b vR vQ m) (fun z : Int => .int .i64 z) (fun z => AtW m.q t z) (fun _ => LT b vR vQ m) := by
  intro w hE hH
  refine enter (n := 11) (vs := [.pointer (some ⟨b, 0, none⟩), .int .i64 t]) (St w (dom (LT b vR vQ m)) (LT b vR vQ (m))) func250 I I I (St.init hH) ?_
  refine Cs I (l_e I (e_box I I I I ?_))
  intro bt
  refine Ak I (Cs I (Lm I (Lc I (Lfa U275 I Z200 I (Lo G200 1 I (Lq I (q_makeFunc (fn := .func 0) (us := #[.pointer (some ⟨bt, 0, none⟩)]) 285 I (vs := #[]) (fun a k => by simp) (fun a k => by simp [k.eval (x := .tmp 3) rfl])) (Pre.fact (fun _ h => st_ne4 (h := h)) ?_)))))))
  intro hne
  refine l_e I (e_call_11 (indexf_spec m.q bt hne t (by omega)) I I I call188 I (Hrd 3 I) ?_)
  intro z hz
  refine Ak I (c_ret (drop0 (r_one I I ?_)))
  exact fun _ h => ⟨z, rfl, hz, h⟩
theorem open_spec {m : La} {n : Nat} (hm : m.Ok n) (hn : n ≤ 60000) (b : Nat) (vR vQ : Value) (wr : Bool) : Con Tryz.prog 156 [.pointer (some ⟨b, 0, none⟩), .bool wr] (fun _ => True) (LT b vR vQ m) (fun _ : Unit => .bool (openB m wr)) (fun _ => True) (fun _ => LT b vR vQ m) := by
  intro w hE hH
  refine enter (n := 22) (vs := [.pointer (some ⟨b, 0, none⟩), .bool wr]) (St w (dom (LT b vR vQ m)) (LT b vR vQ (m))) func156 I I I (St.init hH) ?_
  refine Cs I (Ak I (Cs I (Lm I (Lc I (Lfa U275 I Z3 I (Lo G3 0 I (Lq I (q_eql I I I) (Lm I ?_))))))))
  refine Pre.caseB 10 I (fun h1 => ?_) (fun h1 => ?_)
  · try simp only [B4] at h1
    refine Lm I (Lq I (q_not I I) (Lm I ?_))
    refine Pre.caseB 13 I (fun h2 => ?_) (fun h2 => ?_)
    · try simp only [B4] at h2
      refine Lx I (Lx I (Lx I (Lx I (Lx I (Lx I (Lq I (q_pick_t I I I) (Lq I (q_pick_t I I I) (Ak I (c_ret (r_one I I ?_))))))))))
      exact fun _ h => ⟨(), congrArg (fun z => Ending.returned (Value.bool z)) (by simp [openB, *]), trivial, h⟩
    · try simp only [B4] at h2
      refine Lm I (Lc I (Lfa U275 I Z22 I (Lo G22 0 I (Lq I (q_lenV I U22 I (Hrd 1 I)) (Lq I (q_eql I I I) (Lq I (q_pick_f I I I) (Lq I (q_pick_t I I I) (Ak I (c_ret (r_one I I ?_))))))))))
      exact fun _ h => ⟨(), congrArg (fun z => Ending.returned (Value.bool z)) (by simp [openB, *]), trivial, h⟩
  · try simp only [B4] at h1
    refine Lx I (Lx I (Lx I (Lx I (Lx I (Lx I (Lx I (Lx I (Lx I (Lx I (Lq I (q_pick_f I I I) (Ak I (c_ret (r_one I I ?_)))))))))))))
    exact fun _ h => ⟨(), congrArg (fun z => Ending.returned (Value.bool z)) (by simp [openB, *]), trivial, h⟩
theorem may_spec {m : La} {n : Nat} (hm : m.Ok n) (hn : n ≤ 60000) (b : Nat) (vR vQ : Value) (t : Int) : Con Tryz.prog 197 [.pointer (some ⟨b, 0, none⟩), .int .i64 t] (fun _ => True) (LT b vR vQ m) (fun _ : Unit => .bool (mayB m t)) (fun _ => True) (fun _ => LT b vR vQ m) := by
  intro w hE hH
  obtain ⟨hlr, hlq⟩ := hm.lens
  refine enter (n := 30) (vs := [.pointer (some ⟨b, 0, none⟩), .int .i64 t]) (St w (dom (LT b vR vQ m)) (LT b vR vQ (m))) func197 I I I (St.init hH) ?_
  refine Cs I (Ak I (Cs I (Lm I (Lq I (q_geq I I I) (Lm I ?_)))))
  refine Pre.caseB 7 I (fun h1 => ?_) (fun h1 => ?_)
  · try simp only [B4] at h1
    refine Lm I (Lc I (Lfa U275 I Z3 I (Lo G3 0 I (Lm I (Lq I (q_neq I I I) (Lq I (q_pick_t I I I) (Lm I ?_)))))))
    refine Pre.caseB 15 I (fun h2 => ?_) (fun h2 => ?_)
    · try simp only [B4] at h2
      refine Lm I (Lc I (Lfa U275 I Z22 I (Lo G22 0 I (Lm I (l_e I (e_call_00 (contains_spec m.rd t (by omega)) I I I call105 I (Hrd 1 I) ?_))))))
      intro _ _
      refine Lq I (q_not I I) (Lq I (q_pick_t I I I) (Lm I ?_))
      refine Pre.caseB 24 I (fun h3 => ?_) (fun h3 => ?_)
      · try simp only [B4] at h3
        refine Lm I (Lm I (pull2 (pull2 (pull2 (l_e I (e_call_33 (waits_spec (m := m) (by omega) b vR vQ t) I I I call250 I Tt ?_))))))
        intro z hz
        have hzi := hz.iff
        refine Lq I (q_lss I I I) (Lq I (q_pick_t I I I) (Ak I (c_ret (r_one I I ?_))))
        exact fun _ h => ⟨(), congrArg (fun z => Ending.returned (Value.bool z)) (by first | (simp_all [mayB]; done) | (simp_all [mayB]; intros; omega)), trivial, h⟩
      · try simp only [B4] at h3
        refine Lx I (Lx I (Lx I (Lx I (Lq I (q_pick_f I I I) (Ak I (c_ret (r_one I I ?_)))))))
        exact fun _ h => ⟨(), congrArg (fun z => Ending.returned (Value.bool z)) (by first | (simp_all [mayB]; done) | (simp_all [mayB]; intros; omega)), trivial, h⟩
    · try simp only [B4] at h2
      refine Lx I (Lx I (Lx I (Lx I (Lx I (Lx I (Lx I (Lq I (q_pick_f I I I) (Lm I (Lx I (Lx I (Lx I (Lx I (Lq I (q_pick_f I I I) (Ak I (c_ret (r_one I I ?_))))))))))))))))
      exact fun _ h => ⟨(), congrArg (fun z => Ending.returned (Value.bool z)) (by first | (simp_all [mayB]; done) | (simp_all [mayB]; intros; omega)), trivial, h⟩
  · try simp only [B4] at h1
    refine Lx I (Lx I (Lx I (Lx I (Lx I (Lx I (Lq I (q_pick_f I I I) (Lm I (Lx I (Lx I (Lx I (Lx I (Lx I (Lx I (Lx I (Lq I (q_pick_f I I I) (Lm I (Lx I (Lx I (Lx I (Lx I (Lq I (q_pick_f I I I) (Ak I (c_ret ?_)))))))))))))))))))))))
    refine r_one I I ?_
    exact fun _ h => ⟨(), congrArg (fun z => Ending.returned (Value.bool z)) (by first | (simp_all [mayB]; done) | (simp_all [mayB]; intros; omega)), trivial, h⟩
theorem writer_spec {m : La} {n : Nat} (hm : m.Ok n) (hn : n ≤ 60000) (b : Nat) (vR vQ : Value) : Con Tryz.prog 247 [.pointer (some ⟨b, 0, none⟩)] (fun _ => True) (LT b vR vQ m) (fun _ : Unit => .int .i64 m.wr) (fun _ => True) (fun _ => LT b vR vQ m) := by
  intro w hE hH
  refine enter (n := 7) (vs := [.pointer (some ⟨b, 0, none⟩)]) (St w (dom (LT b vR vQ m)) (LT b vR vQ (m))) func247 I I I (St.init hH) ?_
  refine Cs I (Ak I (Cs I (Lm I (Lc I (Lfa U275 I Z3 I (Lo G3 0 I (Ak I (c_ret (r_one I I ?_)))))))))
  exact fun _ h => ⟨(), rfl, trivial, h⟩
theorem readers_spec {m : La} {n : Nat} (hm : m.Ok n) (hn : n ≤ 60000) (b : Nat) (vR vQ : Value) : Con Tryz.prog 248 [.pointer (some ⟨b, 0, none⟩)] (fun _ => True) (LT b vR vQ m) (fun v : Value => v) (fun _ => True) (fun v => rowE v 3 (encI .i64) m.rd :: LT b vR vQ m) := by
  intro w hE hH
  obtain ⟨hlr, hlq⟩ := hm.lens
  refine enter (n := 8) (vs := [.pointer (some ⟨b, 0, none⟩)]) (St w (dom (LT b vR vQ m)) (LT b vR vQ (m))) func248 I I I (St.init hH) ?_
  refine Cs I (Ak I (Cs I (Lm I (Lc I (Lfa U275 I Z22 I (Lo G22 0 I (l_e I (e_call_01 (clone_spec m.rd (by omega)) I I I call107 I (Hrd 1 I) ?_))))))))
  intro v _
  refine Ak I (c_ret (r_one I I ?_))
  exact fun _ h => ⟨v, rfl, trivial, h⟩
theorem queue_spec {m : La} {n : Nat} (hm : m.Ok n) (hn : n ≤ 60000) (b : Nat) (vR vQ : Value) : Con Tryz.prog 130 [.pointer (some ⟨b, 0, none⟩)] (fun _ => True) (LT b vR vQ m) (fun v : Value => v) (fun _ => True) (fun v => rowE v 241 encW m.q :: LT b vR vQ m) := by
  intro w hE hH
  obtain ⟨hlr, hlq⟩ := hm.lens
  refine enter (n := 8) (vs := [.pointer (some ⟨b, 0, none⟩)]) (St w (dom (LT b vR vQ m)) (LT b vR vQ (m))) func130 I I I (St.init hH) ?_
  refine Cs I (Ak I (Cs I (Lm I (Lc I (Lfa U275 I Z200 I (Lo G200 0 I (l_e I (e_call_01 (clonew_spec m.q (by omega)) I I I call189 I (Hrd 2 I) ?_))))))))
  intro v _
  refine Ak I (c_ret (r_one I I ?_))
  exact fun _ h => ⟨v, rfl, trivial, h⟩
theorem idle_spec {m : La} {n : Nat} (hm : m.Ok n) (hn : n ≤ 60000) (b : Nat) (vR vQ : Value) : Con Tryz.prog 98 [.pointer (some ⟨b, 0, none⟩)] (fun _ => True) (LT b vR vQ m) (fun _ : Unit => .bool (idleB m)) (fun _ => True) (fun _ => LT b vR vQ m) := by
  intro w hE hH
  refine enter (n := 20) (vs := [.pointer (some ⟨b, 0, none⟩)]) (St w (dom (LT b vR vQ m)) (LT b vR vQ (m))) func98 I I I (St.init hH) ?_
  refine Cs I (Ak I (Cs I (Lm I (pull2 (pull2 (pull2 (l_e I (e_call_33 (open_spec hm hn b vR vQ true) I I I call156 I Tt ?_))))))))
  intro _ _
  refine Lm I ?_
  refine Pre.caseB 5 I (fun h1 => ?_) (fun h1 => ?_)
  · try simp only [B4] at h1
    refine Lm I (Lc I (Lfa U275 I Z200 I (Lo G200 0 I (Lq I (q_lenV I U200 I (Hrd 2 I)) (Lq I (q_eql I I I) (Lq I (q_pick_t I I I) (Lm I ?_)))))))
    refine Pre.caseB 13 I (fun h2 => ?_) (fun h2 => ?_)
    · try simp only [B4] at h2
      refine Lm I (Lc I (Lfa U275 I sizeOf273 I (Lo isAgg273 0 I (Lq I (q_eql I I I) (Lq I (q_pick_t I I I) (Ak I (c_ret (r_one I I ?_))))))))
      exact fun _ h => ⟨(), congrArg (fun z => Ending.returned (Value.bool z)) (by simp_all [idleB]), trivial, h⟩
    · try simp only [B4] at h2
      refine Lx I (Lx I (Lx I (Lx I (Lx I (Lq I (q_pick_f I I I) (Ak I (c_ret (r_one I I ?_))))))))
      exact fun _ h => ⟨(), congrArg (fun z => Ending.returned (Value.bool z)) (by simp_all [idleB]), trivial, h⟩
  · try simp only [B4] at h1
    refine Lx I (Lx I (Lx I (Lx I (Lx I (Lx I (Lq I (q_pick_f I I I) (Lm I (Lx I (Lx I (Lx I (Lx I (Lx I (Lq I (q_pick_f I I I) (Ak I (c_ret (r_one I I ?_))))))))))))))))
    exact fun _ h => ⟨(), congrArg (fun z => Ending.returned (Value.bool z)) (by simp_all [idleB]), trivial, h⟩
theorem new_spec : Con Tryz.prog 102 [] (fun _ => True) [] (fun b : Nat => .pointer (some ⟨b, 0, none⟩)) (fun _ => True) (fun b => LT b (.slice none 0 0) (.slice none 0 0) newL) := by
  intro w hE hH
  refine enter (n := 3) (vs := []) (St w [] []) func102 I I I (St.init hH) ?_
  refine Cs I (Ak I (Cs I (Lq I (q_build [.int .i64 0, .slice none 0 0, .int .i64 (-1), .slice none 0 0] I I (fun w => by kernel_rfl)) (l_e I (e_box I I I I ?_)))))
  intro b
  refine Ak I (c_ret (row0 3 (encI .i64) none (row0 241 encW none (pull1 (pull2 (r_one I I ?_))))))
  exact fun _ h => ⟨b, rfl, trivial, h⟩
theorem row_one {w : World} {v : Value} {t : TypeId} {α : Type} {E : Enc α} {l : List α} (h : (rowE v t E l).at w) : v.oneCell' = true := by
  obtain ⟨a, c, rfl⟩ := row_sl h; rfl
theorem row_onev {w : World} {v : Value} {t : TypeId} {α : Type} {E : Enc α} {l : List α} (h : (rowE v t E l).at w) (s i j : Nat) : (vsl v s i j).oneCell' = true := by
  obtain ⟨a, c, rfl⟩ := row_sl h; rfl
theorem give_spec {m : La} (hs : m.rd.Pairwise (· < ·)) (hl : m.rd.length ≤ 60000) (b : Nat) (vR vQ : Value) (t : Int) (wr : Bool) : Con Tryz.prog 257 [.pointer (some ⟨b, 0, none⟩), .int .i64 t, .bool wr] (fun _ => True) (LT b vR vQ m) (fun _ : Value => .tuple #[]) (fun _ => True) (fun v => LT b v vQ (giveL m t wr)) := by
  intro w hE hH
  refine enter (n := 33) (vs := [.pointer (some ⟨b, 0, none⟩), .int .i64 t, .bool wr]) (St w (dom (LT b vR vQ m)) (LT b vR vQ (m))) func257 I I I (St.init hH) ?_
  refine c_seq (Cs I (Lm I (Nk ?_)))
  refine Pre.caseB 8 I (fun h1 => ?_) (fun h1 => ?_)
  · subst h1
    refine c_true I (Cs I (Lm I (Lm I (Lc I (Lfa U275 I Z3 I (l_e I (e_store I I Z3 I I I (Nat.le_of_ble_eq_true I) (Nk (c_ret (k_then_ret (r_none I ?_)))))))))))
    exact fun _ h => ⟨vR, rfl, trivial, h⟩
  · subst h1
    refine c_false I (c_skip (Kt (Cs I (Lm I (Lc I (Lfa U275 I Z22 I (Lo G22 0 I (Lm I (l_e I (e_call_00 (bsearch_spec m.rd t hs (by omega)) I I I call286 I (Hrd 1 I) ?_))))))))))
    intro z hz
    refine Lm I (Lq I (q_extract I I I) (Lq I (q_extract I I I) (Las I (Ak I (Cr I (Lm I (Lm I (Lc I (Lfa U275 I Z22 I (Lo G22 0 I (Lm I (Lm I (l_e I (e_buildSliceV (sz := 1) [.tmp 28] I I I I I U22 Z3 I zeroValue3 I ?_))))))))))))))
    intro bt
    refine pull2 (l_e I (e_call_21 (insert_spec m.rd z.1 t bt hz.1 (by omega)) I I I call287 I Tt ?_))
    intro v2 _
    refine row_eq (l' := ins t m.rd) (ins_eq hz.1 hz.2.1 hz.2.2).symm (Lc I (Lfa U275 I Z22 I (Pre.fact (fun _ h => row_one (h.at 0 I)) ?_)))
    intro hone
    refine pull1 (l_e I (e_store I I Z22 I I hone (Nat.le_of_ble_eq_true I) (l_nil (r_normal (pull2 (pull2 (pull2 (r_none I ?_))))))))
    exact fun _ h => ⟨v2, rfl, trivial, h⟩
theorem let_spec {m : La} {n : Nat} (hm : m.Ok n) (hn : n ≤ 60000) (b : Nat) (vR vQ : Value) : Con Tryz.prog 252 [.pointer (some ⟨b, 0, none⟩)] (fun _ => True) (LT b vR vQ m) (fun v : Value × Value × Value => v.1) (fun _ => True) (fun v => rowE v.1 3 (encI .i64) (letL m).1 :: LT b v.2.1 v.2.2 (letL m).2) := by
  intro w hE hH
  refine enter (n := 48) (vs := [.pointer (some ⟨b, 0, none⟩)]) (St w (dom (LT b vR vQ m)) (LT b vR vQ (m))) func252 I I I (St.init hH) ?_
  refine Cs I (Ak I (Cs I (Ak I (c_seq (c_block (row0 3 (encI .i64) none ?_))))))
  refine c_loop5 (fun (m2 : La) (acc : List Int) (v : Value) (vR2 : Value) (vQ2 : Value) => [(0, .pointer (some ⟨b, 0, none⟩)), (3, v)]) (fun (m2 : La) (acc : List Int) (v : Value) (vR2 : Value) (vQ2 : Value) => St w (dom (LT b vR vQ m)) (rowE v 3 (encI .i64) acc :: LT b vR2 vQ2 m2)) (fun (m2 : La) (acc : List Int) (v : Value) (vR2 : Value) (vQ2 : Value) => m2.Ok n ∧ letL m = (acc ++ (letL m2).1, (letL m2).2) ∧ acc.length + m2.q.length ≤ n) (fun (m2 : La) (acc : List Int) (v : Value) (vR2 : Value) (vQ2 : Value) => m2.q.length) (m) ([]) (.slice none 0 0) (vR) (vQ) ⟨hm, rfl, by have := hm.lens; simp; omega⟩ (Sn I (Sn I (Sub.nil))) Ih ?_
  intro m2 acc v vR2 vQ2 hp
  refine c_seq (c_seq ?_)
  obtain ⟨hm2, hlet, hlen⟩ := hp
  obtain ⟨hlr, hlq⟩ := hm2.lens
  refine Cr I (Lm I (Lc I (Lfa U275 I Z200 I (Lo G200 1 I (Lq I (q_lenV I U200 I (Hrd 3 I)) (Lq I (q_gtr I I I) (Lm I ?_)))))))
  refine Pre.caseB 11 I (fun h1 => ?_) (fun h1 => ?_)
  · try simp only [B4] at h1
    obtain ⟨y, q, hq⟩ : ∃ y q, m2.q = y :: q := by
      cases hq : m2.q with
      | nil => rw [hq] at h1; simp at h1
      | cons y q => exact ⟨y, q, rfl⟩
    have hy : m2.q[0]? = some y := by rw [hq]; rfl
    refine Lm I (Lm I (Lc I (Lfa U275 I Z200 I (Lo G200 1 I (Lq I (q_indexV 0 I U200 Z241 I (Hrd 3 I) I I (by omega)) (Lfa U241 I Z4 I (Lq I (q_loadV 0 1 I G4 I I (Hrd 3 I) hy I) (pull3 (pull3 (pull3 (l_e I (e_call_33 (open_spec hm2 hn b vR2 vQ2 y.2) I I I call156 I Tt ?_))))))))))))
    intro _ _
    refine Lq I (q_pick_t I I I) (Nk ?_)
    refine Pre.caseB 21 I (fun h2 => ?_) (fun h2 => ?_)
    · have hgo := let_go hq h2
      have hok := ok_go hm2 hq h2
      refine c_true I (c_skip (Kt (c_block (Cs I (Lm I (Lc I (Lfa U275 I Z200 I (Lo G200 0 I (Lq I (q_indexV 0 I U200 Z241 I (Hrd 2 I) I I (by omega)) (Lq I (q_loadVAgg 0 I isAgg241 Z241 I I (Hrd 2 I) hy) (l_e I (e_alloc I I I zeroValue241 ?_))))))))))))
      intro bw
      refine l_e I (e_storeAgg I I Z241 I I I (encW.one y) (Nat.le_of_ble_eq_true I) (cells_eq (show _ = [.int .i64 y.1, .bool y.2] from I) (Nk (Cs I (Lm I (Lm I (Lc I (Lfa U275 I Z200 I (Lo G200 1 I (Lq I (q_sliceVL 1 I U200 Z241 I (Hrd 3 I) I I (by omega)) (Lc I (Lfa U275 I Z200 I ?_))))))))))))
      have hdrop : m2.q.drop 1 = q := by rw [hq]; rfl
      refine Pre.fact (fun _ h => row_onev (h.at 3 I) encW.sz 1 m2.q.length) ?_
      intro hone
      refine pull1 (l_e I (e_store I I Z200 I I hone (Nat.le_of_ble_eq_true I) (Nk (Cs I (Lm I (Lfa U241 I Z3 I (Lo G3 1 I (Lfa U241 I Z4 I (Lo G4 1 I (pull3 (row_tail 1 (by omega) ?_)))))))))))
      rw [hdrop]
      refine pull3 (pull2 (l_e I (e_call_33 (give_spec (m := { m2 with q := q }) hm2.srt (show m2.rd.length ≤ 60000 by omega) b vR2 _ y.1 y.2) I I I call257 I Tt ?_)))
      intro vR3 _
      refine Nk (Cr I (Lm I (Lfa U241 I Z3 I (Lo G3 3 I (l_e I (e_buildSliceV (sz := 1) [.tmp 44] I I I I I U22 Z3 I zeroValue3 I ?_))))))
      intro b1
      refine pull5 (l_e I (e_append I I I U22 U22 info3 I I I I I (fun _ h => lit_rd (h.at 1 I) (encI .i64) [y.1] I I) (by simp only [byt3, List.length_append, List.length_cons, List.length_nil]; omega) (by simp only [List.length_append, List.length_cons, List.length_nil]; omega) ?_))
      intro v3
      refine Las I (l_nil (k_block (pull1 (drop0 (pull4 (drop0 (pull3 (pull3 (pull3 (pull3 ?_))))))))))
      exact k_round ((giveL { m2 with q := q } y.1 y.2, acc ++ [y.1], v3, vR3, vsl vQ2 encW.sz 1 m2.q.length)) (by dsimp only; rw [give_q, hq]; simp) ⟨hok, by rw [hlet, hgo]; simp, by rw [give_q]; rw [hq] at hlen; simp at hlen ⊢; omega⟩ (Sub.cons I (Sub.cons I (Sub.nil))) (fun _ h => h)
    · have hst := let_stop (m := m2) (.inr ⟨y, q, hq, h2⟩)
      refine c_false I (c_exit (k_then_exit (k_then_exit (k_block_exit (Kt (Cs I (Lm I (Ak I (c_ret (pull2 (pull2 (pull2 (pull3 (r_one I I ?_))))))))))))))
      exact fun _ h => ⟨(v, vR2, vQ2), rfl, trivial, by rw [hlet, hst, List.append_nil]; exact h⟩
  · try simp only [B4] at h1
    have hst := let_stop (m := m2) (.inl (List.eq_nil_of_length_eq_zero (by omega)))
    refine Lx I (Lx I (Lx I (Lx I (Lx I (Lx I (Lx I (Lx I (Lx I (Lq I (q_pick_f I I I) (Nk (c_false I (c_exit (k_then_exit (k_then_exit (k_block_exit (Kt (Cs I (Lm I (Ak I (c_ret (r_one I I ?_)))))))))))))))))))))
    exact fun _ h => ⟨(v, vR2, vQ2), rfl, trivial, by rw [hlet, hst, List.append_nil]; exact h⟩
theorem try_spec {m : La} {n : Nat} (hm : m.Ok n) (hn : n ≤ 60000) (b : Nat) (vR vQ : Value) (t : Int) (wr : Bool) : Con Tryz.prog 198 [.pointer (some ⟨b, 0, none⟩), .int .i64 t, .bool wr] (fun _ => True) (LT b vR vQ m) (fun _ : Value => .bool (tryB m t wr)) (fun _ => True) (fun v => LT b v vQ (tryL m t wr)) := by
  intro w hE hH
  obtain ⟨hlr, hlq⟩ := hm.lens
  refine enter (n := 29) (vs := [.pointer (some ⟨b, 0, none⟩), .int .i64 t, .bool wr]) (St w (dom (LT b vR vQ m)) (LT b vR vQ (m))) func198 I I I (St.init hH) ?_
  refine Cs I (Ak I (c_seq (Cs I (Lm I (Lm I (pull2 (pull2 (pull2 (l_e I (e_call_33 (may_spec hm hn b vR vQ t) I I I call197 I Tt ?_))))))))))
  intro _ _
  refine Lq I (q_not I I) (Lm I ?_)
  refine Pre.caseB 11 I (fun h1 => ?_) (fun h1 => ?_)
  · try simp only [B4] at h1
    refine Lx I (Lx I (Lx I (Lx I (Lx I (Lx I (Lq I (q_pick_t I I I) (Lm I (Lx I (Lx I (Lx I (Lx I (Lq I (q_pick_t I I I) (Nk (c_true I (Cs I (Ak I (c_ret (k_then_ret ?_))))))))))))))))))
    have e : tryB m t wr = false := by first | (simp_all [tryB]; done) | (unfold tryB; rw [show decide (m.q.length = 0) = false from decide_eq_false (by omega)]; simp)
    refine r_one I I ?_
    exact fun _ h => ⟨vR, congrArg (fun z => Ending.returned (Value.bool z)) e.symm, trivial, by unfold tryL; rw [e]; exact h⟩
  · try simp only [B4] at h1
    refine Lm I (Lc I (Lfa U275 I Z200 I (Lo G200 0 I (Lq I (q_lenV I U200 I (Hrd 2 I)) (Lq I (q_gtr I I I) (Lq I (q_pick_f I I I) (Lm I ?_)))))))
    refine Pre.caseB 19 I (fun h2 => ?_) (fun h2 => ?_)
    · try simp only [B4] at h2
      refine Lx I (Lx I (Lx I (Lx I (Lq I (q_pick_t I I I) (Nk (c_true I (Cs I (Ak I (c_ret (k_then_ret ?_))))))))))
      have e : tryB m t wr = false := by first | (simp_all [tryB]; done) | (unfold tryB; rw [show decide (m.q.length = 0) = false from decide_eq_false (by omega)]; simp)
      refine r_one I I ?_
      exact fun _ h => ⟨vR, congrArg (fun z => Ending.returned (Value.bool z)) e.symm, trivial, by unfold tryL; rw [e]; exact h⟩
    · try simp only [B4] at h2
      refine Lm I (Lm I (pull2 (pull2 (pull2 (l_e I (e_call_33 (open_spec hm hn b vR vQ wr) I I I call156 I Tt ?_))))))
      intro _ _
      refine Lq I (q_not I I) (Lq I (q_pick_f I I I) (Nk ?_))
      refine Pre.caseB 24 I (fun h3 => ?_) (fun h3 => ?_)
      · try simp only [B4] at h3
        refine c_true I (Cs I (Ak I (c_ret (k_then_ret ?_))))
        have e : tryB m t wr = false := by first | (simp_all [tryB]; done) | (unfold tryB; rw [show decide (m.q.length = 0) = false from decide_eq_false (by omega)]; simp)
        refine r_one I I ?_
        exact fun _ h => ⟨vR, congrArg (fun z => Ending.returned (Value.bool z)) e.symm, trivial, by unfold tryL; rw [e]; exact h⟩
      · try simp only [B4] at h3
        refine c_false I (c_skip (Kt (Cs I (Lm I (Lm I (Lm I ?_))))))
        have e : tryB m t wr = true := by first | (simp_all [tryB]; done) | (unfold tryB; rw [show decide (m.q.length = 0) = true from decide_eq_true (by omega)]; simp_all)
        refine pull2 (pull2 (pull2 (l_e I (e_call_33 (give_spec hm.srt (by omega) b vR vQ t wr) I I I call257 I Tt ?_))))
        intro v2 _
        refine Nk (Cs I (Ak I (c_ret (r_one I I ?_))))
        exact fun _ h => ⟨v2, congrArg (fun z => Ending.returned (Value.bool z)) e.symm, trivial, by unfold tryL; rw [e]; exact h⟩
theorem take_spec {m : La} {n : Nat} (hm : m.Ok n) (hn : n ≤ 60000) (b : Nat) (vR vQ : Value) (t : Int) (wr : Bool) : Con Tryz.prog 135 [.pointer (some ⟨b, 0, none⟩), .int .i64 t, .bool wr] (fun _ => True) (LT b vR vQ m) (fun _ : Value × Value => .bool (tryB m t wr)) (fun _ => True) (fun v => LT b v.1 v.2 (takeL m t wr)) := by
  intro w hE hH
  obtain ⟨hlr, hlq⟩ := hm.lens
  refine enter (n := 31) (vs := [.pointer (some ⟨b, 0, none⟩), .int .i64 t, .bool wr]) (St w (dom (LT b vR vQ m)) (LT b vR vQ (m))) func135 I I I (St.init hH) ?_
  refine Cs I (Ak I (c_seq (Cs I (Lm I (Lm I (pull2 (pull2 (pull2 (l_e I (e_call_33 (may_spec hm hn b vR vQ t) I I I call197 I Tt ?_))))))))))
  intro _ _
  refine Lq I (q_not I I) (Nk ?_)
  refine Pre.caseB 11 I (fun h1 => ?_) (fun h1 => ?_)
  · try simp only [B4] at h1
    have hb : tryB m t wr = false := by unfold tryB; rw [h1]; rfl
    have ht : takeL m t wr = m := by unfold takeL; rw [h1]; rfl
    refine c_true I (Cs I (Ak I (c_ret (k_then_ret (r_one I I ?_)))))
    exact fun _ h => ⟨(vR, vQ), congrArg (fun z => Ending.returned (Value.bool z)) (hb.symm), trivial, by rw [ht]; exact h⟩
  · try simp only [B4] at h1
    refine c_false I (c_skip (Kt (Cs I (Lm I (Lm I (Lm I (l_e I (e_call_33 (try_spec hm hn b vR vQ t wr) I I I call198 I Tt ?_))))))))
    intro v2 _
    refine Ak I (c_seq (Cs I (Lm I (Lq I (q_not I I) (Nk ?_)))))
    refine Pre.caseB 17 I (fun h2 => ?_) (fun h2 => ?_)
    · try simp only [B4] at h2
      have ht : takeL m t wr = queueL m t wr := by unfold takeL; rw [h1, h2]; rfl
      have hl : tryL m t wr = m := by unfold tryL; rw [h2]; rfl
      rw [hl]
      refine c_true I (Cr I (Lm I (Lm I (Lc I (Lfa U275 I Z200 I (Lo G200 0 I (Lm I (Lm I (Lq I (q_build ([.int .i64 t, .bool wr]) I I (fun w => by kernel_rfl)) (l_e I (e_buildSliceV (sz := 2) [.tmp 25] I I I I I U200 Z241 I zeroValue241 I ?_)))))))))))
      intro b1
      refine pull3 (l_e I (e_append I I I U200 U200 info241 I I I I I (fun _ h => lit_rd (h.at 1 I) encW [(t, wr)] I I) (by simp only [byt241, List.length_append, List.length_cons, List.length_nil]; omega) (by simp only [List.length_append, List.length_cons, List.length_nil]; omega) ?_))
      intro v3
      refine Lc I (Lfa U275 I Z200 I (Pre.fact (fun _ h => row_one (h.at 0 I)) ?_))
      intro hone
      refine pull2 (l_e I (e_store I I Z200 I I hone (Nat.le_of_ble_eq_true I) (Nk (Cs I (Lm I (Ak I (c_ret (pull2 (drop0 (pull1 (pull2 (pull2 (r_one I I ?_)))))))))))))
      exact fun _ h => ⟨(v2, v3), congrArg (fun z => Ending.returned (Value.bool z)) (I), trivial, by rw [ht]; exact h⟩
    · try simp only [B4] at h2
      have ht : takeL m t wr = tryL m t wr := by unfold takeL tryL; rw [h1, h2]; rfl
      refine c_false I (c_skip (Kt (Cs I (Lm I (Ak I (c_ret (r_one I I ?_)))))))
      exact fun _ h => ⟨(v2, vQ), congrArg (fun z => Ending.returned (Value.bool z)) (I), trivial, by rw [ht]; exact h⟩
theorem drop_spec {m : La} {n : Nat} (hm : m.Ok n) (hn : n ≤ 60000) (b : Nat) (vR vQ : Value) (t : Int) : Con Tryz.prog 176 [.pointer (some ⟨b, 0, none⟩), .int .i64 t] (fun _ => True) (LT b vR vQ m) (fun v : Value × Value × Value => v.1) (fun _ => True) (fun v => rowE v.1 3 (encI .i64) (dropL m t).1 :: LT b v.2.1 v.2.2 (dropL m t).2) := by
  intro w hE hH
  obtain ⟨hlr, hlq⟩ := hm.lens
  refine enter (n := 55) (vs := [.pointer (some ⟨b, 0, none⟩), .int .i64 t]) (St w (dom (LT b vR vQ m)) (LT b vR vQ (m))) func176 I I I (St.init hH) ?_
  refine Cs I (Ak I (c_seq (Cs I (Lm I (Lq I (q_lss I I I) (Nk ?_))))))
  refine Pre.caseB 8 I (fun h0 => ?_) (fun h0 => ?_)
  · try simp only [B4] at h0
    have hd : dropL m t = ([], m) := by unfold dropL; rw [if_pos h0]
    refine c_true I (Cs I (Ak I (c_ret (k_then_ret (row0 3 (encI .i64) none (r_one I I ?_))))))
    exact fun _ h => ⟨(.slice none 0 0, vR, vQ), rfl, trivial, by rw [hd]; exact h⟩
  · try simp only [B4] at h0
    have hd : dropL m t = letL (leaveL m t) := by unfold dropL; rw [if_neg h0]
    refine c_false I (c_skip (Ks (Cs I (Lm I (Lc I (Lfa U275 I Z3 I (Lo G3 0 I (Lm I (Lq I (q_eql I I I) (Nk ?_))))))))))
    refine c_meet2 (fun (vR2 : Value) (vQ2 : Value) => [(0, .pointer (some ⟨b, 0, none⟩)), (1, .int .i64 t)]) (fun (vR2 : Value) (vQ2 : Value) => St w (dom (LT b vR vQ m)) (LT b vR2 vQ2 ({ m with wr := if m.wr = t then -1 else m.wr }))) (fun (vR2 : Value) (vQ2 : Value) => True) ?_ ?_
    · refine Pre.caseB 14 I (fun h1 => ?_) (fun h1 => ?_)
      · try simp only [B4] at h1
        refine c_true I (Cr I (Lm I (Lc I (Lfa U275 I Z3 I (l_e I (e_store I I Z3 I I I (Nat.le_of_ble_eq_true I) (l_nil ?_)))))))
        exact k_meet ((vR, vQ)) trivial (Sub.cons I (Sub.cons I (Sub.nil))) (fun _ h => by rw [if_pos h1]; exact h)
      · try simp only [B4] at h1
        refine c_false I (c_skip ?_)
        exact k_meet ((vR, vQ)) trivial (Sub.cons I (Sub.cons I (Sub.nil))) (fun _ h => by rw [if_neg h1]; exact h)
    · intro vR2 vQ2 _
      refine c_seq (Cs I (Lm I (Lc I (Lfa U275 I Z22 I (Lo G22 0 I (Lm I (l_e I (e_call_00 (index_spec m.rd t (by omega)) I I I call157 I (Hrd 1 I) ?_))))))))
      intro z hz
      refine Ak I (Cs I (Lm I (Lq I (q_geq I I I) (Nk ?_))))
      refine c_meet2 (fun (vR3 : Value) (vQ3 : Value) => [(0, .pointer (some ⟨b, 0, none⟩)), (1, .int .i64 t)]) (fun (vR3 : Value) (vQ3 : Value) => St w (dom (LT b vR vQ m)) (LT b vR3 vQ3 ({ m with wr := if m.wr = t then -1 else m.wr, rd := m.rd.filter (fun x => decide (x ≠ t)) }))) (fun (vR3 : Value) (vQ3 : Value) => True) ?_ ?_
      · refine Pre.caseB 25 I (fun h2 => ?_) (fun h2 => ?_)
        · try simp only [B4] at h2
          obtain ⟨k, rfl, hk⟩ : ∃ k : Nat, z = (k : Int) ∧ m.rd[k]? = some t := by
            rcases hz with ⟨rfl, _⟩ | hz
            · omega
            · exact hz
          have hkl := (List.getElem?_eq_some_iff.1 hk).1
          refine c_true I (Cr I (Lm I (Lm I (Lc I (Lfa U275 I Z22 I (Lo G22 0 I (Lm I (Lm I (Lq I (q_add64 I I I (by omega)) (pull1 (l_e I (e_call_11 (delete_spec m.rd k hkl (by omega)) I I I call249 I Tt ?_))))))))))))
          intro v3 _
          refine row_eq (l' := m.rd.filter (fun x => decide (x ≠ t))) (filter_at (f := fun x => x) (by simpa using hm.rn) hk I).symm (Lc I (Lfa U275 I Z22 I (Pre.fact (fun _ h => row_one (h.at 0 I)) ?_)))
          intro hone
          refine pull1 (l_e I (e_store I I Z22 I I hone (Nat.le_of_ble_eq_true I) (l_nil (pull2 (pull2 (pull2 ?_))))))
          exact k_meet ((v3, vQ2)) trivial (Sub.cons I (Sub.cons I (Sub.nil))) (fun _ h => h)
        · try simp only [B4] at h2
          have hno : m.rd.filter (fun x => decide (x ≠ t)) = m.rd := filter_no (f := fun x => x) (by
            rcases hz with ⟨_, hz⟩ | ⟨k, rfl, _⟩
            · simpa using hz
            · omega)
          refine c_false I (c_skip ?_)
          exact k_meet ((vR2, vQ2)) trivial (Sub.cons I (Sub.cons I (Sub.nil))) (fun _ h => by rw [hno]; exact h)
      · intro vR3 vQ3 _
        refine c_seq (Cs I (Lm I (Lm I (l_e I (e_call_33 (waits_spec (m := { m with wr := if m.wr = t then -1 else m.wr, rd := m.rd.filter (fun x => decide (x ≠ t)) }) (show m.q.length ≤ 60000 by omega) b vR3 vQ3 t) I I I call250 I Tt ?_)))))
        intro z hz
        refine Ak I (Cs I (Lm I (Lq I (q_geq I I I) (Nk ?_))))
        refine c_meet2 (fun (vR4 : Value) (vQ4 : Value) => [(0, .pointer (some ⟨b, 0, none⟩)), (1, .int .i64 t)]) (fun (vR4 : Value) (vQ4 : Value) => St w (dom (LT b vR vQ m)) (LT b vR4 vQ4 (leaveL m t))) (fun (vR4 : Value) (vQ4 : Value) => True) ?_ ?_
        · refine Pre.caseB 41 I (fun h3 => ?_) (fun h3 => ?_)
          · try simp only [B4] at h3
            obtain ⟨k, y, rfl, hk, hy⟩ : ∃ (k : Nat) (y : Wt), z = (k : Int) ∧ m.q[k]? = some y ∧ y.1 = t := by
              rcases hz with ⟨rfl, _⟩ | hz
              · omega
              · exact hz
            have hkl := (List.getElem?_eq_some_iff.1 hk).1
            refine c_true I (Cr I (Lm I (Lm I (Lc I (Lfa U275 I Z200 I (Lo G200 0 I (Lm I (Lm I (Lq I (q_add64 I I I (by omega)) (pull2 (l_e I (e_call_11 (deletew_spec m.q k hkl (by omega)) I I I call251 I Tt ?_))))))))))))
            intro v3 _
            refine row_eq (l' := (leaveL m t).q) (filter_at hm.qn hk hy).symm (Lc I (Lfa U275 I Z200 I (Pre.fact (fun _ h => row_one (h.at 0 I)) ?_)))
            intro hone
            refine pull1 (l_e I (e_store I I Z200 I I hone (Nat.le_of_ble_eq_true I) (l_nil (pull1 (pull2 (pull2 ?_))))))
            exact k_meet ((vR3, v3)) trivial (Sub.cons I (Sub.cons I (Sub.nil))) (fun _ h => h)
          · try simp only [B4] at h3
            have hno : (leaveL m t).q = m.q := filter_no (by
              rcases hz with ⟨_, hz⟩ | ⟨k, _, rfl, _⟩
              · exact hz
              · omega)
            refine c_false I (c_skip ?_)
            exact k_meet ((vR3, vQ3)) trivial (Sub.cons I (Sub.cons I (Sub.nil))) (fun _ h => by unfold LT; rw [hno]; exact h)
        · intro vR4 vQ4 _
          refine Cs I (Lm I (l_e I (e_call_34 (let_spec (leave_ok hm (by omega)) hn b vR4 vQ4) I I I call252 I Tt ?_)))
          intro v _
          refine Ak I (c_ret (r_one I I ?_))
          exact fun _ h => ⟨v, rfl, trivial, by rw [hd]; exact h⟩
end Go.Proofs.YtloldofjddbjoaaGreat.Lt
namespace Go.Proofs.YtloldofjddbjoaaGreat
open Go.Sep Go.RowKit Tryz
theorem Con.pack {P : Program} {f : FuncId} {vs : List Value} {E E' : World → Prop} {H H' : List Ent} (F : List Ent) {β γ : Type} {v : β → Value} {p : β → Prop} {HB : β → List Ent} {v' : γ → Value} {p' : γ → Prop} {HB' : γ → List Ent} (s : Con P f vs E H v p HB) (hp : H'.Perm (H ++ F)) (hE : ∀ w, E' w → HP H' w → E w) (g : β → γ)
    (hg : ∀ b, p b → v b = v' (g b) ∧ p' (g b) ∧ ∃ K, (HB b ++ F).Perm (HB' (g b) ++ K)) : Con P f vs E' H' v' p' HB' := fun w he hh =>
  (s.frame (F := F) ((St.init hh).perm hp) (hE w he hh)).mono (fun e w' ⟨b, h1, h2, h3⟩ => by
    obtain ⟨h4, h5, K, h6⟩ := hg b h2
    exact ⟨g b, by rw [h1, h4], h5, (h3.perm h6).cut⟩)
theorem perm_nil (l : List Ent) : l.Perm (l ++ []) := by rw [List.append_nil]
theorem perm4 (A B S G : List Ent) : (A ++ B ++ S ++ G).Perm (B ++ (S ++ (A ++ G))) := by
  simp only [List.append_assoc]
  exact (List.perm_append_comm_assoc A B (S ++ G)).trans ((List.perm_append_comm_assoc A S G).append_left B)
structure Q where
  S : CS
  M : Mo
  G : List Ent
namespace Q
def H (bc : Nat) (q : Q) : List Ent := q.S.H bc ++ q.G
structure Ok (q : Q) (B : Nat) : Prop where
  rel : Rel q.S q.M
  ok : q.M.Ok B
  nin : NIn q.G q.S.fl
end Q
theorem Q.Ok.mono {q : Q} {B C : Nat} (h : q.Ok B) (hBC : B ≤ C) (hC : C ≤ 60000) : q.Ok C := ⟨h.rel, h.ok.mono hBC hC, h.nin⟩
theorem cr_hp {bc : Nat} {S : CS} {H : List Ent} {w : World} (h : HP H w) (hs : ∀ e ∈ S.H bc, e ∈ H) : CR w bc S := CR.ofm (St.init h) hs
theorem nr_hp {G : List Ent} {S : CS} {H : List Ent} {w : World} (hN : NIn G S.fl) (h : HP H w) (hs : ∀ e ∈ G, e ∈ H) : NR w S := fun f hf => (hN f hf).rd h hs
theorem NIn.more {G G' : List Ent} {fl : List FC} (h : NIn G fl) (hs : ∀ e ∈ G, e ∈ G') : NIn G' fl := fun f hf => (h f hf).more hs
structure LC where
  b : Nat
  vR : Value
  vQ : Value
  m : Lt.La
abbrev LC.H (l : LC) : List Ent := Lt.LT l.b l.vR l.vQ l.m
def LTs (l : List LC) : List Ent := l.flatMap LC.H
theorem LTs_cons (a : LC) (l : List LC) : LTs (a :: l) = a.H ++ LTs l := rfl
theorem lt_out : ∀ {l : List LC} {i : Nat} {a : LC}, l[i]? = some a → (LTs l).Perm (a.H ++ LTs (l.eraseIdx i))
  | [], i, a, h => by simp at h
  | x :: l, 0, a, h => by simp at h; subst h; exact List.Perm.refl _
  | x :: l, i + 1, a, h => by
    have ih := lt_out (l := l) (i := i) (a := a) (by simpa using h)
    rw [List.eraseIdx_cons_succ, LTs_cons, LTs_cons]
    exact (ih.append_left x.H).trans (List.perm_append_comm_assoc _ _ _)
theorem lt_in : ∀ {l : List LC} {i : Nat} (a : LC), i < l.length → (a.H ++ LTs (l.eraseIdx i)).Perm (LTs (l.set i a))
  | [], i, a, h => by simp at h
  | x :: l, 0, a, h => List.Perm.refl _
  | x :: l, i + 1, a, h => by
    have ih := lt_in (l := l) (i := i) a (by simpa using h)
    rw [List.eraseIdx_cons_succ, List.set_cons_succ, LTs_cons, LTs_cons]
    exact (List.perm_append_comm_assoc _ _ _).trans (ih.append_left x.H)
def encPt : Enc Nat := ⟨1, fun b => [.pointer (some ⟨b, 0, none⟩)], fun _ => rfl, fun a u h => by simp at h; subst h; rfl, by decide⟩
structure HQ where
  bh : Nat
  bc : Nat
  bs : Nat
  bR : Nat
  vL : Value
  vB : Value
  vU : Value
  rd : List (Int × Int)
  s : Sto
  lt : List LC
  q : Q
abbrev ptV (b : Nat) : Value := .pointer (some ⟨b, 0, none⟩)
abbrev HQ.cells (x : HQ) : List Value := [ptV x.bc, ptV x.bs, x.vL, .map (some x.bR)]
abbrev HQ.H (x : HQ) : List Ent := cellsE x.bh 91 x.cells :: rowE x.vL 203 encPt (x.lt.map LC.b) :: mapT x.bR kI kI x.rd :: cellsE x.bs 161 [x.vB, x.vU] :: rowE x.vB 279 Bk.enc x.s.bl :: rowE x.vU 4 encB x.s.us :: (LTs x.lt ++ x.q.H x.bc)
abbrev HQ.rest (x : HQ) : List Ent := cellsE x.bh 91 x.cells :: rowE x.vL 203 encPt (x.lt.map LC.b) :: mapT x.bR kI kI x.rd :: cellsE x.bs 161 [x.vB, x.vU] :: rowE x.vB 279 Bk.enc x.s.bl :: rowE x.vU 4 encB x.s.us :: LTs x.lt
structure HQ.Ok (x : HQ) (B : Nat) : Prop where
  q : x.q.Ok B
  s : x.s.Ok
  l : ∀ l ∈ x.lt, l.m.Ok B
  ll : x.lt.length = x.q.M.fr.length
  rn : (x.rd.map Prod.fst).Nodup
theorem HQ.H_perm (x : HQ) : x.H.Perm (x.q.H x.bc ++ x.rest) := (show x.H = x.rest ++ x.q.H x.bc from rfl) ▸ List.perm_append_comm
theorem HQ.H_perm' (x : HQ) (q : Q) : (q.H x.bc ++ x.rest).Perm ({ x with q := q } : HQ).H := List.perm_append_comm
theorem HQ.Ok.b9 {x : HQ} {B : Nat} (h : x.Ok B) : B ≤ 60000 := h.q.ok.B9
theorem HQ.Ok.mono {x : HQ} {B C : Nat} (h : x.Ok B) (hBC : B ≤ C) (hC : C ≤ 60000) : x.Ok C := ⟨h.q.mono hBC hC, h.s, fun l hl => (h.l l hl).mono hBC, h.ll, h.rn⟩
theorem hh_cr {x : HQ} {w : World} (h : HP x.H w) : CR w x.bc x.q.S := cr_hp h (fun e he => by
  show e ∈ x.rest ++ (x.q.S.H x.bc ++ x.q.G)
  exact List.mem_append_right _ (List.mem_append_left _ he))
theorem hh_nr {x : HQ} {B : Nat} {w : World} (h : x.Ok B) (hh : HP x.H w) : NR w x.q.S := nr_hp h.q.nin hh (fun e he => by
  show e ∈ x.rest ++ (x.q.S.H x.bc ++ x.q.G)
  exact List.mem_append_right _ (List.mem_append_right _ he))
theorem HQ.lift {P : Program} {f : FuncId} {vs : List Value} {E E' : World → Prop} {x : HQ} {β γ : Type} {v : β → Value} {p : β → Prop} {A : List Ent} {HB : β → List Ent} {v' : γ → Value} {p' : γ → Prop} {A' : γ → List Ent} (s : Con P f vs E (A ++ x.q.S.H x.bc) v p HB) (hE : ∀ w, E' w → HP (A ++ x.H) w → E w) (g : β → γ) (qn : γ → Q)
    (hg : ∀ b, p b → v b = v' (g b) ∧ p' (g b) ∧ (HB b ++ x.q.G).Perm (A' (g b) ++ (qn (g b)).H x.bc)) : Con P f vs E' (A ++ x.H) v' p' (fun c => A' c ++ ({ x with q := qn c } : HQ).H) :=
  Con.pack (x.q.G ++ x.rest) s (by
    have h1 : (A ++ x.H).Perm (A ++ ((x.q.S.H x.bc ++ x.q.G) ++ x.rest)) := (x.H_perm).append_left A
    simpa only [List.append_assoc] using h1) hE g (fun b hb => by
    obtain ⟨h1, h2, h3⟩ := hg b hb
    refine ⟨h1, h2, [], ?_⟩
    rw [List.append_nil, ← List.append_assoc]
    refine (h3.append_right x.rest).trans ?_
    rw [List.append_assoc]
    exact (x.H_perm' (qn (g b))).append_left _)
theorem HQ.look {P : Program} {f : FuncId} {vs : List Value} {E : World → Prop} {x : HQ} {β : Type} {v : β → Value} {p : β → Prop} {HB : β → List Ent} (s : Con P f vs E [] v p HB) (hE : ∀ w, HP x.H w → E w) : Con P f vs (fun _ => True) x.H v p (fun c => HB c ++ x.H) :=
  Con.pack x.H s (List.Perm.refl _) (fun w _ h => hE w h) id (fun b hb => ⟨rfl, hb, [], perm_nil _⟩)
theorem put_len (M : Mo) (i : Nat) (y : Vw) : (M.put i y).fr.length = M.fr.length := List.length_set
theorem pin_len (M : Mo) (t b : Int) : (M.pin t b).2.fr.length = M.fr.length := by
  unfold Mo.pin
  split
  · rfl
  · split
    · dsimp only; split
      · exact put_len ..
      · exact put_len ..
    · split
      · rfl
      · exact put_len ..
theorem claim_len (M : Mo) (t : Int) : (M.claim t).2.fr.length = M.fr.length := by
  unfold Mo.claim
  split
  · rfl
  · split
    · rfl
    · exact put_len ..
theorem fill_len (M : Mo) (b : Int) (nd : Nd) : (M.fill b nd).2.fr.length = M.fr.length := by
  unfold Mo.fill; split
  · exact put_len ..
  · rfl
theorem give_len (M : Mo) (t : Int) : (M.give t).fr.length = M.fr.length := List.length_map ..
theorem name_len (M : Mo) (t b : Int) (nd : Nd) : (M.name t b nd).2.fr.length = M.fr.length := by
  unfold Mo.name; split
  · exact put_len ..
  · rfl
theorem unpin_len (M : Mo) (b : Int) : (M.unpin b).2.fr.length = M.fr.length := by
  unfold Mo.unpin; split
  · split
    · rfl
    · exact put_len ..
  · rfl
theorem set_len (M : Mo) (b : Int) (nd : Nd) : (M.setN b nd).2.fr.length = M.fr.length := by
  unfold Mo.setN; split
  · exact put_len ..
  · rfl
abbrev HQ.setq (x : HQ) (q : Q) : HQ := { x with q := q }
theorem HQ.Ok.setq {x : HQ} {q : Q} {B C : Nat} (h : x.Ok B) (hq : q.Ok C) (hBC : B ≤ C) (hl : q.M.fr.length = x.q.M.fr.length) : (x.setq q).Ok C := ⟨hq, h.s, fun l hm => (h.l l hm).mono hBC, by show x.lt.length = q.M.fr.length; rw [hl]; exact h.ll, h.rn⟩
theorem HQ.lift0 {P : Program} {f : FuncId} {vs : List Value} {E E' : World → Prop} {x : HQ} {β γ : Type} {v : β → Value} {p : β → Prop} {HB : β → List Ent} {v' : γ → Value} {p' : γ → Prop} {A' : γ → List Ent} (s : Con P f vs E (x.q.S.H x.bc) v p HB) (hE : ∀ w, E' w → HP x.H w → E w) (g : β → γ) (qn : γ → Q)
    (hg : ∀ b, p b → v b = v' (g b) ∧ p' (g b) ∧ (HB b ++ x.q.G).Perm (A' (g b) ++ (qn (g b)).H x.bc)) : Con P f vs E' x.H v' p' (fun c => A' c ++ (x.setq (qn c)).H) :=
  HQ.lift (A := []) s hE g qn hg
theorem hpin {x : HQ} {B : Nat} (h : x.Ok B) (hB : B + 1 ≤ 60000) (t b : Int) (hb64 : i64 b) : Con Tryz.prog 174 [ptV x.bc, .int .i64 t, .int .i64 b] (fun _ => True) x.H (fun _ : Q => .int .i64 (x.q.M.pin t b).1) (fun q => q.M = (x.q.M.pin t b).2 ∧ (x.setq q).Ok (B + 1)) (fun q => (x.setq q).H) :=
  HQ.lift0 (A' := fun _ => []) (pin_spec h.q.rel h.q.ok hB t b hb64) (fun _ _ _ => trivial) (fun S' => (⟨S', (x.q.M.pin t b).2, x.q.G⟩ : Q)) id (fun S' hp => ⟨rfl, ⟨rfl, h.setq ⟨hp.1, pin_ok h.q.ok t b hB, hp.2 _ h.q.nin⟩ (Nat.le_succ B) (pin_len _ _ _)⟩, List.Perm.refl _⟩)
theorem hclaim {x : HQ} {B : Nat} (h : x.Ok B) (hB : B + 1 ≤ 60000) (t : Int) : Con Tryz.prog 207 [ptV x.bc, .int .i64 t] (fun _ => True) x.H (fun _ : Q => .bool (x.q.M.claim t).1) (fun q => q.M = (x.q.M.claim t).2 ∧ (x.setq q).Ok (B + 1)) (fun q => (x.setq q).H) :=
  HQ.lift0 (A' := fun _ => []) (claim_spec h.q.rel h.q.ok t) (fun _ _ _ => trivial) (fun S' => (⟨S', (x.q.M.claim t).2, x.q.G⟩ : Q)) id (fun S' hp => ⟨rfl, ⟨rfl, h.setq ⟨hp.1, claim_ok h.q.ok t hB, hp.2 _ h.q.nin⟩ (Nat.le_succ B) (claim_len _ _)⟩, List.Perm.refl _⟩)
theorem hunpin {x : HQ} {B : Nat} (h : x.Ok B) (b : Int) : Con Tryz.prog 177 [ptV x.bc, .int .i64 b] (fun _ => True) x.H (fun _ : Q => .bool (x.q.M.unpin b).1) (fun q => q.M = (x.q.M.unpin b).2 ∧ (x.setq q).Ok B) (fun q => (x.setq q).H) :=
  HQ.lift0 (A' := fun _ => []) (unpin_spec h.q.rel h.q.ok b) (fun _ _ _ => trivial) (fun S' => (⟨S', (x.q.M.unpin b).2, x.q.G⟩ : Q)) id (fun S' hp => ⟨rfl, ⟨rfl, h.setq ⟨hp.1, unpin_ok h.q.ok b, hp.2 _ h.q.nin⟩ (Nat.le_refl B) (unpin_len _ _)⟩, List.Perm.refl _⟩)
theorem hgive {x : HQ} {B : Nat} (h : x.Ok B) (t : Int) : Con Tryz.prog 263 [ptV x.bc, .int .i64 t] (fun _ => True) x.H (fun _ : Q => .int .i64 (x.q.M.claims t : Int)) (fun q => q.M = (x.q.M.give t) ∧ (x.setq q).Ok B) (fun q => (x.setq q).H) :=
  HQ.lift0 (A' := fun _ => []) (give_spec h.q.rel h.q.ok t) (fun _ _ _ => trivial) (fun S' => (⟨S', (x.q.M.give t), x.q.G⟩ : Q)) id (fun S' hp => ⟨rfl, ⟨rfl, h.setq ⟨hp.1, give_ok h.q.ok t, hp.2 _ h.q.nin⟩ (Nat.le_refl B) (give_len _ _)⟩, List.Perm.refl _⟩)
theorem hset {x : HQ} {B : Nat} (h : x.Ok B) (nv : NV) (hn : nv.d.Sm 1000) (b : Int) : Con Tryz.prog 261 [ptV x.bc, .int .i64 b, .agg nv.c.toArray] (fun _ => True) (nrows nv ++ x.H) (fun _ : Q => .bool (x.q.M.setN b nv.d).1) (fun q => q.M = (x.q.M.setN b nv.d).2 ∧ (x.setq q).Ok B) (fun q => nrows nv ++ (x.setq q).H) :=
  HQ.lift (A' := fun _ => nrows nv) (set_spec h.q.rel h.q.ok b nv (hn.mono (by decide))) (fun _ _ _ => trivial) (fun r => (⟨r.1, (x.q.M.setN b nv.d).2, nrows r.2 ++ x.q.G⟩ : Q)) id (fun r hp => ⟨rfl, ⟨rfl, h.setq ⟨hp.1, set_ok h.q.ok b nv.d hn, hp.2 _ (fun e he => List.mem_append_left _ he) (h.q.nin.more (fun e he => List.mem_append_right _ he))⟩ (Nat.le_refl B) (set_len _ _ _)⟩, perm4 _ _ _ _⟩)
theorem hname {x : HQ} {B : Nat} (h : x.Ok B) (nv : NV) (hn : nv.d.Sm 1000) (t b : Int) : Con Tryz.prog 268 [ptV x.bc, .int .i64 t, .int .i64 b, .agg nv.c.toArray] (fun _ => True) (nrows nv ++ x.H) (fun _ : Q => .bool (x.q.M.name t b nv.d).1) (fun q => q.M = (x.q.M.name t b nv.d).2 ∧ (x.setq q).Ok B) (fun q => nrows nv ++ (x.setq q).H) :=
  HQ.lift (A' := fun _ => nrows nv) (name_spec h.q.rel h.q.ok t b nv (hn.mono (by decide))) (fun _ _ _ => trivial) (fun r => (⟨r.1, (x.q.M.name t b nv.d).2, nrows r.2 ++ x.q.G⟩ : Q)) id (fun r hp => ⟨rfl, ⟨rfl, h.setq ⟨hp.1, name_ok h.q.ok t b nv.d hn, hp.2 _ (fun e he => List.mem_append_left _ he) (h.q.nin.more (fun e he => List.mem_append_right _ he))⟩ (Nat.le_refl B) (name_len _ _ _ _)⟩, perm4 _ _ _ _⟩)
theorem hfill {x : HQ} {B : Nat} (h : x.Ok B) (nv : NV) (hn : nv.d.Sm 1000) (b : Int) : Con Tryz.prog 133 [ptV x.bc, .int .i64 b, .agg nv.c.toArray] (fun _ => True) (nrows nv ++ x.H) (fun r : Q × Value => .tuple #[r.2, .bool (x.q.M.fill b nv.d).1.2]) (fun r => r.1.M = (x.q.M.fill b nv.d).2 ∧ (x.setq r.1).Ok B) (fun r => (rowE r.2 3 (encI .i64) (x.q.M.fill b nv.d).1.1 :: nrows nv) ++ (x.setq r.1).H) :=
  HQ.lift (A' := fun r : Q × Value => rowE r.2 3 (encI .i64) (x.q.M.fill b nv.d).1.1 :: nrows nv) (fill_spec h.q.rel h.q.ok b nv (hn.mono (by decide))) (fun _ _ _ => trivial) (fun r => ((⟨r.1, (x.q.M.fill b nv.d).2, nrows r.2.1 ++ x.q.G⟩ : Q), r.2.2)) Prod.fst (fun r hp => ⟨rfl, ⟨rfl, h.setq ⟨hp.1, fill_ok h.q.ok b nv.d hn, hp.2 _ (fun e he => List.mem_append_left _ he) (h.q.nin.more (fun e he => List.mem_append_right _ he))⟩ (Nat.le_refl B) (fill_len _ _ _)⟩, (perm4 _ _ _ _).cons _⟩)
theorem hmayq {x : HQ} {B : Nat} (h : x.Ok B) (t : Int) : Con Tryz.prog 132 [ptV x.bc, .int .i64 t] (fun _ => True) x.H (fun _ : Unit => .bool (x.q.M.may t)) (fun _ => True) (fun _ : Unit => [] ++ x.H) :=
  HQ.look (maygo_spec h.q.rel h.q.ok t) (fun w hh => hh_cr hh)
theorem hline {x : HQ} {B : Nat} (h : x.Ok B) : Con Tryz.prog 99 [ptV x.bc] (fun _ => True) x.H (fun v : Value => v) (fun _ => True) (fun v : Value => [rowE v 3 (encI .i64) (x.q.M.line.map Prod.fst)] ++ x.H) :=
  HQ.look (line_spec h.q.rel h.q.ok) (fun w hh => hh_cr hh)
theorem hnode {x : HQ} {B : Nat} (h : x.Ok B) (b : Int) : Con Tryz.prog 116 [ptV x.bc, .int .i64 b] (fun _ => True) x.H (fun s : N4 => .tuple #[.agg (⟨s, (x.q.M.node b).1⟩ : NV).c.toArray, .bool (x.q.M.node b).2]) (fun _ => True) (fun s : N4 => nrows ⟨s, (x.q.M.node b).1⟩ ++ x.H) :=
  HQ.look (node_spec h.q.rel h.q.ok b) (fun w hh => ⟨hh_cr hh, hh_nr h hh⟩)
theorem hplace {x : HQ} {B : Nat} (h : x.Ok B) (b : Int) : Con Tryz.prog 194 [ptV x.bc, .int .i64 b] (fun _ => True) x.H (fun _ : Unit => .int .i64 (io (x.q.M.find b))) (fun _ => True) (fun _ : Unit => [] ++ x.H) :=
  HQ.look (place_spec h.q.rel h.q.ok b) (fun w hh => hh_cr hh)
theorem hclaims {x : HQ} {B : Nat} (h : x.Ok B) (t : Int) : Con Tryz.prog 262 [ptV x.bc, .int .i64 t] (fun _ => True) x.H (fun _ : Unit => .int .i64 (x.q.M.claims t : Int)) (fun _ => True) (fun _ => x.H) :=
  Con.pack (x.q.G ++ x.rest) (claims_spec h.q.rel h.q.ok t) (by have := x.H_perm; unfold Q.H at this; rwa [List.append_assoc] at this) (fun _ _ _ => trivial) id (fun _ _ => ⟨rfl, trivial, [], by rw [List.append_nil]; have := x.H_perm.symm; unfold Q.H at this; rwa [List.append_assoc] at this⟩)
theorem hready {x : HQ} {B : Nat} (h : x.Ok B) (b : Int) : Con Tryz.prog 196 [ptV x.bc, .int .i64 b] (fun _ => True) x.H (fun _ : Unit => .bool (x.q.M.frI b 2).isSome) (fun _ => True) (fun _ => x.H) :=
  Con.pack (x.q.G ++ x.rest) (ready_spec h.q.rel h.q.ok b) (by have := x.H_perm; unfold Q.H at this; rwa [List.append_assoc] at this) (fun _ _ _ => trivial) id (fun _ _ => ⟨rfl, trivial, [], by rw [List.append_nil]; have := x.H_perm.symm; unfold Q.H at this; rwa [List.append_assoc] at this⟩)
theorem hframes {x : HQ} {B : Nat} (h : x.Ok B) : Con Tryz.prog 97 [ptV x.bc] (fun _ => True) x.H (fun b : Value × List FC × List Ent => b.1) (fun b => b.2.1.map vw = x.q.M.fr ∧ ∀ f ∈ b.2.1, ∀ e ∈ nrows f.nv, e ∈ b.2.2) (fun b => (rowE b.1 202 FC.encA b.2.1 :: b.2.2) ++ x.H) :=
  HQ.look (frames_spec h.q.rel h.q.ok) (fun w hh => ⟨hh_cr hh, hh_nr h hh⟩)
structure Lf where
  n : Nat
  s : Sto
  r : Vw
  ld : List Int
  cl : Nat
  ct : Int
  la : Lt.La
  rt : Option Int
def cf (t : Int) : Vw := ⟨3, -1, t, 1, false, false, nd0⟩
def lfd (es : List En) : Nd := ⟨true, es, [], [], []⟩
namespace Lf
def rest (L : Lf) : List Vw := List.replicate L.cl (cf L.ct) ++ List.replicate (L.n - 1 - L.cl) free0
def M (L : Lf) : Mo := ⟨L.r :: L.rest, L.ld.map (fun t => (t, 0)), [], 0⟩
def las (L : Lf) : List Lt.La := L.la :: List.replicate (L.n - 1) Lt.newL
def rds (L : Lf) : List (Int × Int) := match L.rt with | none => [] | some t => [(0, t)]
structure Ok (L : Lf) : Prop where
  n5 : 5 ≤ L.n
  c2 : L.cl ≤ 2
  s0 : L.s.us[0]? = some true
  b0 : ∃ bk : Bk, L.s.bl[0]? = some bk ∧ bk.l = blkL
  st : L.r = free0 ∨ (L.r.st = 1 ∧ L.r.blk = 0) ∨ (L.r.st = 2 ∧ L.r.blk = 0)
  nd : L.r.st = 2 → ∃ es, L.r.nd = lfd es ∧ Rise es ∧ fitL (lfd es) = true
theorem rest_not {L : Lf} {b : Int} : ∀ f ∈ L.rest, isB b f = false := fun f hf => by
  rcases List.mem_append.1 hf with h | h
  · rw [(List.mem_replicate.1 h).2]; simp [isB, cf]
  · rw [(List.mem_replicate.1 h).2]; simp [isB, free0]
theorem fst1_cons {α : Type} {p : α → Bool} {x : α} {l : List α} : fst1 p (x :: l) = if p x = true then some 0 else (fst1 p l).map (· + 1) := by
  unfold fst1; rw [List.findIdx?_cons]
theorem Ok.find {L : Lf} (h : L.Ok) : L.M.find 0 = if L.r.st = 0 then none else some 0 := by
  show fst1 (isB 0) (L.r :: L.rest) = _
  rw [fst1_cons, fst1_none rest_not]
  rcases h.st with e | ⟨e1, e2⟩ | ⟨e1, e2⟩
  · rw [e]
    rfl
  · simp [isB, e1, e2]
  · simp [isB, e1, e2]
theorem fst1_rep {n : Nat} {t : Int} (m : Nat) (hm : 0 < m) : fst1 isF (List.replicate n (cf t) ++ List.replicate m free0) = some n := by
  refine fst1_some (y := free0) ?_ (by simp [isF, free0]) (fun z hz => ?_)
  · rw [List.getElem?_append_right (by simp), List.length_replicate, Nat.sub_self, List.getElem?_replicate, if_pos hm]
  · rw [List.take_append_of_le_length (by simp), List.take_of_length_le (by simp)] at hz
    rw [(List.mem_replicate.1 hz).2]; simp [isF, cf]
theorem Ok.free {L : Lf} (h : L.Ok) : L.M.freeI = if L.r.st = 0 then some 0 else some (L.cl + 1) := by
  have := h.n5
  have := h.c2
  show fst1 isF (L.r :: L.rest) = _
  rw [fst1_cons]
  unfold rest
  rw [fst1_rep _ (by omega)]
  by_cases e : L.r.st = 0
  · simp [isF, e]
  · simp [isF, e]
theorem Ok.takes {L : Lf} (h : L.Ok) (t : Int) : L.M.takes t = if L.r.st = 0 then some 0 else some (L.cl + 1) := by
  unfold Mo.takes
  rw [if_pos (show L.M.turn t = true from rfl), h.free]
theorem stand_none (L : Lf) (t : Int) : L.M.stand t = none := rfl
theorem waits_iff (L : Lf) (t : Int) : L.M.waits t = decide (t ∈ L.ld) := by
  show (L.ld.map (fun t => ((t, 0) : Int × Int))).any (isT t) = _
  rw [Bool.eq_iff_iff]
  simp [isT, List.any_eq_true]
theorem mayW_yes {L : Lf} {t : Int} (b : Int) (ht : tkB t = true) (hl : t ∉ L.ld) : L.M.mayW t b = true := by
  unfold Mo.mayW
  rw [ht, waits_iff, decide_eq_false hl, stand_none]; rfl
theorem may_iff (L : Lf) (t : Int) : L.M.may t = (tkB t && !decide (t ∈ L.ld)) := by
  unfold Mo.may
  rw [waits_iff, stand_none]; simp
def pin (L : Lf) (t : Int) : Int × Lf :=
  if L.r.st = 0 then (3, { L with r := ⟨1, 0, 0, 1, true, false, nd0⟩, rt := some t })
  else if L.r.st = 2 then (1, { L with r := { L.r with pins := L.r.pins + 1, ref := true } })
  else (2, { L with r := { L.r with pins := L.r.pins + 1, ref := true }, ld := L.ld ++ [t] })
theorem at0 (L : Lf) : L.M.at' 0 = L.r := rfl
theorem Ok.pin {L : Lf} (h : L.Ok) {t : Int} (ht : tkB t = true) (hl : t ∉ L.ld) : L.M.pin t 0 = ((L.pin t).1, (L.pin t).2.M) := by
  unfold Mo.pin Lf.pin
  rw [mayW_yes 0 ht hl, h.find, h.takes]
  by_cases e : L.r.st = 0
  · simp only [e, if_true]
    rfl
  · simp only [e, if_false]
    by_cases e2 : L.r.st = 2
    · simp only [at0, e2, if_true]
      rfl
    · simp only [at0, e2, if_false]
      refine congrArg (Prod.mk 2) ?_
      unfold M
      simp only [List.map_append]
      rfl
theorem Ok.pin_ok {L : Lf} (h : L.Ok) (t : Int) : (L.pin t).2.Ok := by
  unfold Lf.pin
  split
  · exact ⟨h.n5, h.c2, h.s0, h.b0, .inr (.inl ⟨rfl, rfl⟩), fun e => by cases e⟩
  · split
    · rename_i h0 h2
      exact ⟨h.n5, h.c2, h.s0, h.b0, .inr (.inr ⟨h2, by rcases h.st with e | e | e; · exact absurd (by rw [e]; rfl) h0
                                                        · exact e.2
                                                        · exact e.2⟩), h.nd⟩
    · rename_i h0 h2
      exact ⟨h.n5, h.c2, h.s0, h.b0, .inr (.inl (by rcases h.st with e | e | e; · exact absurd (by rw [e]; rfl) h0
                                                    · exact e
                                                    · exact absurd e.1 h2)), h.nd⟩
def fill (L : Lf) : Lf := { L with r := { L.r with st := 2, nd := lfd [] }, ld := [], rt := none }
theorem Ok.frI1 {L : Lf} (h : L.Ok) (st : Int) (h0 : st ≠ 0) : L.M.frI 0 st = if L.r.st = st then some 0 else none := by
  unfold Mo.frI
  rw [h.find]
  by_cases e : L.r.st = 0
  · have : ¬ (0 : Int) = st := fun x => h0 x.symm
    simp [e, this]
  · rw [if_neg e]; rfl
theorem told_all (L : Lf) : L.M.told 0 = L.ld := by
  unfold Mo.told
  show ((L.ld.map (fun t => ((t, 0) : Int × Int))).filter (fun q => decide (q.2 = 0))).map Prod.fst = _
  rw [List.filter_eq_self.2 (by intro a ha; obtain ⟨t, _, rfl⟩ := List.mem_map.1 ha; rfl), List.map_map]
  exact List.map_id' _
theorem Ok.fill {L : Lf} (h : L.Ok) (h1 : L.r.st = 1) : L.M.fill 0 (lfd []) = ((L.ld, true), L.fill.M) := by
  unfold Mo.fill
  rw [h.frI1 1 (by decide), if_pos h1, told_all]
  refine congrArg (Prod.mk _) ?_
  have : L.M.loads.filter (fun q => !decide (q.2 = 0)) = [] := by
    rw [List.filter_eq_nil_iff]
    intro a ha
    obtain ⟨t, _, rfl⟩ := List.mem_map.1 (show a ∈ L.ld.map (fun t => ((t, 0) : Int × Int)) from ha)
    simp
  rw [this]
  rfl
theorem rise_nil : Rise [] := List.Pairwise.nil
theorem Ok.fill_ok {L : Lf} (h : L.Ok) (h1 : L.r.st = 1) : L.fill.Ok := ⟨h.n5, h.c2, h.s0, h.b0, .inr (.inr ⟨rfl, by
  rcases h.st with e | e | e
  · rw [e] at h1; cases h1
  · exact e.2
  · exact e.2⟩), fun _ => ⟨[], rfl, rise_nil, nvL_fit⟩⟩
theorem Ok.node {L : Lf} (h : L.Ok) : L.M.node 0 = if L.r.st = 2 then (L.r.nd, true) else (nd0, false) := by
  unfold Mo.node Mo.ready
  rw [h.frI1 2 (by decide)]
  by_cases e : L.r.st = 2
  · simp [e, at0]
  · simp [e]
def setN (L : Lf) (es : List En) : Lf := { L with r := { L.r with dirty := true, nd := lfd es } }
theorem Ok.setN {L : Lf} (h : L.Ok) (h2 : L.r.st = 2) (es : List En) : L.M.setN 0 (lfd es) = (true, (L.setN es).M) := by
  unfold Mo.setN Mo.ready
  rw [h.frI1 2 (by decide), if_pos h2]
  rfl
theorem Ok.blk {L : Lf} (h : L.Ok) (h0 : L.r.st ≠ 0) : L.r.blk = 0 := by
  rcases h.st with e | e | e
  · exact absurd (by rw [e]; rfl) h0
  · exact e.2
  · exact e.2
theorem Ok.setN_ok {L : Lf} (h : L.Ok) (h2 : L.r.st = 2) {es : List En} (hr : Rise es) (hf : fitL (lfd es) = true) : (L.setN es).Ok := ⟨h.n5, h.c2, h.s0, h.b0, .inr (.inr ⟨h2, h.blk (by rw [h2]; decide)⟩), fun _ => ⟨es, rfl, hr, hf⟩⟩
def unpin (L : Lf) : Lf := if L.r.pins = 0 then L else { L with r := { L.r with pins := L.r.pins - 1 } }
theorem Ok.unpin {L : Lf} (h : L.Ok) (h2 : L.r.st = 2) : (L.M.unpin 0).2 = L.unpin.M := by
  unfold Mo.unpin Mo.ready Lf.unpin
  rw [h.frI1 2 (by decide), if_pos h2]
  simp only [at0]
  by_cases e : L.r.pins = 0
  · simp only [e, if_true]
  · simp only [e, if_false]; rfl
theorem Ok.unpin_ok {L : Lf} (h : L.Ok) : L.unpin.Ok := by
  unfold Lf.unpin
  split
  · exact h
  · rename_i hp
    refine ⟨h.n5, h.c2, h.s0, h.b0, ?_, h.nd⟩
    rcases h.st with e | e | e
    · exact absurd (by rw [e]; rfl) hp
    · exact .inr (.inl e)
    · exact .inr (.inr e)
def claim (L : Lf) (t : Int) : Lf := { L with cl := L.cl + 1, ct := t }
theorem rep_set {α : Type} (a b : α) : ∀ (k m : Nat), 0 < m → (List.replicate k a ++ List.replicate m b).set k a = List.replicate (k + 1) a ++ List.replicate (m - 1) b
  | 0, m, h => by cases m with
    | zero => omega
    | succ m => rfl
  | k + 1, m, h => by
    rw [List.replicate_succ, List.cons_append, List.set_cons_succ, rep_set a b k m h, List.replicate_succ (n := k + 1), List.cons_append]
theorem Ok.claim {L : Lf} (h : L.Ok) {t : Int} (ht : tkB t = true) (hl : t ∉ L.ld) (h0 : L.r.st ≠ 0) (hc : L.cl = 0 ∨ L.ct = t) : L.M.claim t = (true, (L.claim t).M) := by
  have h5 := h.n5
  have h2 := h.c2
  unfold Mo.claim
  rw [mayW_yes (-1) ht hl, h.takes, if_neg h0]
  simp only [Bool.true_eq_false, if_false]
  refine congrArg (Prod.mk _) ?_
  have hr : L.rest = List.replicate L.cl (cf t) ++ List.replicate (L.n - 1 - L.cl) free0 := by
    unfold rest
    rcases hc with e | e
    · rw [e]; rfl
    · rw [e]
  have hs : (L.r :: L.rest).set (L.cl + 1) (cf t) = L.r :: (L.claim t).rest := by
    rw [List.set_cons_succ, hr, rep_set _ _ _ _ (by omega)]
    unfold rest Lf.claim
    show _ = L.r :: (List.replicate (L.cl + 1) (cf t) ++ List.replicate (L.n - 1 - (L.cl + 1)) free0)
    rw [show L.n - 1 - L.cl - 1 = L.n - 1 - (L.cl + 1) by omega]
  show (⟨(L.r :: L.rest).set (L.cl + 1) (cf t), L.M.loads, [], 0⟩ : Mo) = _
  rw [hs]
  rfl
theorem Ok.claim_ok {L : Lf} (h : L.Ok) (t : Int) (hc : L.cl ≤ 1) : (L.claim t).Ok := ⟨h.n5, by show L.cl + 1 ≤ 2; omega, h.s0, h.b0, h.st, h.nd⟩
def give (L : Lf) : Lf := { L with cl := 0 }
theorem Ok.r3 {L : Lf} (h : L.Ok) : L.r.st ≠ 3 := by
  rcases h.st with e | e | e
  · rw [e]; decide
  · rw [e.1]; decide
  · rw [e.1]; decide
theorem Ok.give {L : Lf} (h : L.Ok) {t : Int} (hc : L.cl = 0 ∨ L.ct = t) : L.M.give t = L.give.M := by
  have h5 := h.n5
  have h2 := h.c2
  have hr : (L.r :: L.rest).map (fun f => if isC t f = true then free0 else f) = L.r :: L.give.rest := by
    rw [List.map_cons, if_neg (by simp [isC, h.r3])]
    unfold rest Lf.give
    rw [List.map_append, List.map_replicate, List.map_replicate]
    have hf : (if isC t free0 = true then free0 else free0) = free0 := by split <;> rfl
    rw [hf]
    have hcl : List.replicate L.cl (if isC t (cf L.ct) = true then free0 else cf L.ct) = List.replicate L.cl free0 := by
      rcases hc with e | e
      · rw [e]; rfl
      · rw [e, if_pos (by simp [isC, cf])]
    rw [hcl, List.replicate_append_replicate]
    show _ = L.r :: (List.replicate 0 _ ++ List.replicate (L.n - 1 - 0) free0)
    rw [show L.cl + (L.n - 1 - L.cl) = L.n - 1 - 0 by omega]
    rfl
  show (⟨(L.r :: L.rest).map _, L.M.loads, [], 0⟩ : Mo) = _
  rw [hr]
  rfl
theorem Ok.give_ok {L : Lf} (h : L.Ok) : L.give.Ok := ⟨h.n5, Nat.zero_le _, h.s0, h.b0, h.st, h.nd⟩
def take (L : Lf) (t : Int) (w : Bool) : Lf := { L with la := Lt.takeL L.la t w }
def drop (L : Lf) (t : Int) : Lf := { L with la := (Lt.dropL L.la t).2 }
theorem Ok.la {L : Lf} (h : L.Ok) (m : Lt.La) : ({ L with la := m } : Lf).Ok := ⟨h.n5, h.c2, h.s0, h.b0, h.st, h.nd⟩
def leave (L : Lf) (t : Int) : Lf := (L.drop t).unpin
def mayH (L : Lf) (t : Int) : Bool := !decide (t ∈ L.la.q.map Prod.fst) && L.M.may t
end Lf
structure LH (x : HQ) (L : Lf) (B : Nat) : Prop where
  ok : x.Ok B
  m : x.q.M = L.M
  s : x.s = L.s
  l : x.lt.map LC.m = L.las
  r : x.rd = L.rds
  o : L.Ok
theorem LH.mono {x : HQ} {L : Lf} {B C : Nat} (h : LH x L B) (hBC : B ≤ C) (hC : C ≤ 60000) : LH x L C := ⟨h.ok.mono hBC hC, h.m, h.s, h.l, h.r, h.o⟩
theorem LH.l0 {x : HQ} {L : Lf} {B : Nat} (h : LH x L B) : ∃ l, x.lt[0]? = some l ∧ l.m = L.la := by
  have hl := h.l
  cases hx : x.lt with
  | nil => rw [hx] at hl; cases hl
  | cons a as' => rw [hx] at hl; exact ⟨a, rfl, (List.cons.inj hl).1⟩
theorem LH.setL {x : HQ} {L : Lf} {B C : Nat} (h : LH x L B) (l' : LC) (hC : l'.m.Ok C) (hBC : B ≤ C) (hC6 : C ≤ 60000) : LH { x with lt := x.lt.set 0 l' } { L with la := l'.m } C := by
  obtain ⟨l, h0, h1⟩ := h.l0
  refine ⟨⟨h.ok.q.mono hBC hC6, h.ok.s, fun z hz => ?_, by show (x.lt.set 0 l').length = _; rw [List.length_set]; exact h.ok.ll, h.ok.rn⟩, h.m, h.s, ?_, h.r, h.o.la _⟩
  · rcases List.mem_or_eq_of_mem_set hz with e | e
    · exact (h.ok.l z e).mono hBC
    · rw [e]; exact hC
  · show (x.lt.set 0 l').map LC.m = _
    have hl := h.l
    cases hx : x.lt with
    | nil => rw [hx] at h0; cases h0
    | cons a as' => rw [hx] at hl; exact congrArg (l'.m :: ·) (List.cons.inj hl).2
theorem LH.setq {x : HQ} {L L' : Lf} {B C : Nat} {q : Q} (h : LH x L B) (hq : (x.setq q).Ok C) (hm : q.M = L'.M) (hs : L'.s = L.s) (hl : L'.las = L.las) (hr : L'.rt = L.rt) (ho : L'.Ok) : LH (x.setq q) L' C := ⟨hq, hm, by rw [hs]; exact h.s, by rw [hl]; exact h.l, by show x.rd = _; rw [h.r]; unfold Lf.rds; rw [hr], ho⟩
abbrev HQ.setS (x : HQ) (s : Sto) : HQ := { x with s := s }
abbrev HQ.setL (x : HQ) (i : Nat) (l : LC) : HQ := { x with lt := x.lt.set i l }
abbrev HQ.pre3 (x : HQ) : List Ent := [cellsE x.bh 91 x.cells, rowE x.vL 203 encPt (x.lt.map LC.b), mapT x.bR kI kI x.rd]
abbrev HQ.pre6 (x : HQ) : List Ent := x.pre3 ++ SE x.bs x.vB x.vU x.s
theorem perm_ab (A B C D : List Ent) : ((A ++ B) ++ (C ++ D)).Perm (A ++ (C ++ (B ++ D))) := by
  rw [List.append_assoc]; exact (List.perm_append_comm_assoc B C D).append_left A
theorem HQ.liftS {P : Program} {f : FuncId} {vs : List Value} {E E' : World → Prop} {x : HQ} {β : Type} {v : β → Value} {p : β → Prop} (A : List Ent) {A' : β → List Ent} {sn : β → Sto} (s : Con P f vs E (A ++ SE x.bs x.vB x.vU x.s) v p (fun b => A' b ++ SE x.bs x.vB x.vU (sn b))) (hE : ∀ w, E' w → HP (A ++ x.H) w → E w) : Con P f vs E' (A ++ x.H) v p (fun b => A' b ++ (x.setS (sn b)).H) :=
  Con.pack (x.pre3 ++ (LTs x.lt ++ x.q.H x.bc)) s (perm_ab A (SE x.bs x.vB x.vU x.s) x.pre3 (LTs x.lt ++ x.q.H x.bc)).symm hE id (fun b hb => ⟨rfl, hb, [], by
    rw [List.append_nil]; exact perm_ab (A' b) (SE x.bs x.vB x.vU (sn b)) x.pre3 (LTs x.lt ++ x.q.H x.bc)⟩)
theorem lt_b {lt : List LC} {i : Nat} {l l' : LC} (h0 : lt[i]? = some l) (hb : l'.b = l.b) : (lt.set i l').map LC.b = lt.map LC.b := by
  rw [List.map_set, hb]
  exact List.ext_getElem? (fun j => by
    rw [List.getElem?_set]
    split
    · rename_i e; subst e; split
      · rw [List.getElem?_map, h0]; rfl
      · rename_i hn; exact absurd (by simpa using (List.getElem?_eq_some_iff.1 h0).1) hn
    · rfl)
theorem HQ.liftL {P : Program} {f : FuncId} {vs : List Value} {E E' : World → Prop} {x : HQ} {i : Nat} {l : LC} {β : Type} {v : β → Value} {p : β → Prop} {A' : β → List Ent} {ln : β → LC} (h0 : x.lt[i]? = some l) (s : Con P f vs E l.H v p (fun b => A' b ++ (ln b).H)) (hE : ∀ w, E' w → HP x.H w → E w) (hb : ∀ b, (ln b).b = l.b) : Con P f vs E' x.H v p (fun b => A' b ++ (x.setL i (ln b)).H) :=
  Con.pack (x.pre6 ++ (LTs (x.lt.eraseIdx i) ++ x.q.H x.bc)) s (by
    have h1 : x.H.Perm (x.pre6 ++ ((l.H ++ LTs (x.lt.eraseIdx i)) ++ x.q.H x.bc)) := by
      show (x.pre6 ++ (LTs x.lt ++ x.q.H x.bc)).Perm _
      exact ((lt_out h0).append_right (x.q.H x.bc)).append_left x.pre6
    refine h1.trans ?_
    have h2 := List.perm_append_comm_assoc x.pre6 l.H (LTs (x.lt.eraseIdx i) ++ x.q.H x.bc)
    rw [← List.append_assoc l.H] at h2
    exact h2) hE id (fun b hp => ⟨rfl, hp, [], by
    rw [List.append_nil]
    have hlt := (List.getElem?_eq_some_iff.1 h0).1
    have h2 : (x.setL i (ln b)).H = x.pre6 ++ (LTs (x.lt.set i (ln b)) ++ x.q.H x.bc) := by
      show cellsE x.bh 91 x.cells :: rowE x.vL 203 encPt ((x.lt.set i (ln b)).map LC.b) :: _ = _
      rw [lt_b h0 (hb b)]
      rfl
    show ((A' b ++ (ln b).H) ++ (x.pre6 ++ (LTs (x.lt.eraseIdx i) ++ x.q.H x.bc))).Perm (A' b ++ (x.setL i (ln b)).H)
    rw [h2]
    refine (perm_ab (A' b) (ln b).H x.pre6 (LTs (x.lt.eraseIdx i) ++ x.q.H x.bc)).trans ?_
    rw [← List.append_assoc (ln b).H]
    exact (((lt_in (ln b) hlt).append_right _).append_left _).append_left _⟩)
theorem HQ.lookL {P : Program} {f : FuncId} {vs : List Value} {E E' : World → Prop} {x : HQ} {i : Nat} {l : LC} {β : Type} {v : β → Value} {p : β → Prop} {A' : β → List Ent} (h0 : x.lt[i]? = some l) (s : Con P f vs E l.H v p (fun b => A' b ++ l.H)) (hE : ∀ w, E' w → HP x.H w → E w) : Con P f vs E' x.H v p (fun b => A' b ++ x.H) := by
  have h := HQ.liftL (ln := fun _ => l) h0 s hE (fun _ => rfl)
  have e : x.setL i l = x := by
    have hs : x.lt.set i l = x.lt := List.ext_getElem? (fun j => by
      rw [List.getElem?_set]
      split
      · rename_i e; subst e; rw [if_pos (List.getElem?_eq_some_iff.1 h0).1, h0]
      · rfl)
    show ({ x with lt := x.lt.set i l } : HQ) = x
    rw [hs]
  rw [e] at h
  exact h
theorem hsread {x : HQ} {L : Lf} {B : Nat} (h : LH x L B) : Con Tryz.prog 166 [ptV x.bs, .int .i64 0] (fun _ => True) x.H (fun v : Value => .tuple #[v, .int .i64 0]) (fun _ => True) (fun v => rowE v 5 (encI .u8) blkL :: x.H) := by
  obtain ⟨bk, hb, hl⟩ := h.o.b0
  rw [← hl]
  have h1 := sread_yes h.ok.s x.bs x.vB x.vU (k := 0) (by rw [h.s]; exact h.o.s0) (by rw [h.s]; exact hb)
  exact HQ.liftS (E' := fun _ => True) (A := []) (A' := fun v : Value => [rowE v 5 (encI .u8) bk.l]) (sn := fun _ => x.s) h1 (fun _ _ _ => trivial)
theorem hsleft {x : HQ} {L : Lf} {B : Nat} (h : LH x L B) : Con Tryz.prog 35 [ptV x.bs] (fun _ => True) x.H (fun _ : Unit => .int .i64 (L.s.left : Int)) (fun _ => True) (fun _ => x.H) := by
  rw [← h.s]
  exact HQ.liftS (E' := fun _ => True) (A := []) (A' := fun _ : Unit => []) (sn := fun _ => x.s) (sleft_spec h.ok.s x.bs x.vB x.vU) (fun _ _ _ => trivial)
theorem his {x : HQ} {L : Lf} {B : Nat} (h : LH x L B) : Con Tryz.prog 173 [ptV x.bh, .int .i64 0] (fun _ => True) (x.H) (fun _ : Unit => .bool true) (fun _ => True) (fun _ => x.H) := by
  intro w hE hH
  refine enter (n := 18) (vs := [ptV x.bh, .int .i64 0]) (St w (dom (x.H)) (x.H)) func173 I I I (St.init hH) ?_
  refine Cs I (Ak I (Cs I (Lm I (Lc I (Lfa U91 I sizeOf87 I (Lo isAgg87 0 I (Lm I (l_e I (e_callH [] (hsread h) I I I call166 I Tt ?_)))))))))
  intro v _
  refine Pre.world (St _ _ (_ :: HQ.H (x))) Ih ?_
  refine Lm I (Lq I (q_extract I I I) (Lq I (q_extract I I I) (Las I (Ak I (Cs I (Lm I (Lq I (q_eql I I I) (Ak I (c_ret (drop0 (r_one I I ?_)))))))))))
  exact fun _ h => ⟨(), rfl, trivial, h⟩
theorem hread {x : HQ} {L : Lf} {B : Nat} (h : LH x L B) : Con Tryz.prog 117 [ptV x.bh, .int .i64 0] (fun _ => True) (x.H) (fun _ : Unit => .tuple #[.agg nvL.c.toArray, .bool true]) (fun _ => True) (fun _ => x.H) := by
  intro w hE hH
  refine enter (n := 29) (vs := [ptV x.bh, .int .i64 0]) (St w (dom (x.H)) (x.H)) func117 I I I (St.init hH) ?_
  refine Cs I (l_e I (e_alloc I I I zeroValue135 ?_))
  intro br
  refine cells_eq (show _ = nv0.c from I) (Ak I (Cs I (Lm I (Lc I (Lfa U91 I sizeOf87 I (Lo isAgg87 1 I (Lm I (l_e I (e_callH [_] (hsread h) I I I call166 I Tt ?_)))))))))
  intro v _
  refine Pre.world (St _ _ (_ :: _ :: HQ.H (x))) Ih ?_
  refine Lm I (Lq I (q_extract I I I) (Lq I (q_extract I I I) (Las I (Ak I (c_seq (Cs I (Lm I (Lq I (q_neq I I I) (Nk (Sb 19 false I (I) (c_false I (c_skip (Kt (Cs I (Lm I (l_e I (e_call_00 (cdecode_empty) I I I call167 I (Hrd 1 I) ?_)))))))))))))))))
  intro _ _
  refine Lm I (Lq I (q_extract I I I) (Lq I (q_extract I I I) (l_e I (e_alloc I I I zeroValue135 ?_))))
  intro bn
  refine cells_eq (show _ = nv0.c from I) (l_e I (e_storeAgg I I Z135 I I I (NV.one _) (by show 0 + 5 ≤ 5; decide) (cells_eq (show Sep.splice _ 0 (nvL).c = (nvL).c from Sep.splice_all I) (Ak I (Cs I (Lq I (q_loadCAgg (nvL.c) I G135 Z135 I (Hat 0 I) (I) (I)) (Lm I (Lq I (q_eql I I I) (pull1 (l_e I (e_storeAgg I I Z135 I I I (NV.one _) (by show 0 + 5 ≤ 5; decide) (cells_eq (show Sep.splice _ 0 (nvL).c = (nvL).c from Sep.splice_all I) (Ak I (c_ret (r_res2 I (res_cellA I G135 Z135 (Hat 0 I) (I)) (show Sep.look _ _ = some _ from I) ?_)))))))))))))))
  exact fun _ h => ⟨(), rfl, trivial, h.drop.drop.drop⟩
theorem htask (x : Int) : Con Tryz.prog 195 [.int .i64 x] (fun _ => True) [] (fun _ : Unit => .bool (tkB x)) (fun _ => True) (fun _ => []) := by
  intro w hE hH
  refine enter (n := 9) (vs := [.int .i64 x]) (St w [] []) func195 I I I (St.init hH) ?_
  refine Cs I (Ak I (Cs I (Lm I (Lq I (q_geq I I I) (Lm I ?_)))))
  refine Pre.caseB 5 I (fun h1 => ?_) (fun h1 => ?_)
  · try simp only [B4] at h1
    refine Lm I (Lq I (q_lss I I I) (Lq I (q_pick_t I I I) (Ak I (c_ret (r_one I I ?_)))))
    exact fun _ h => ⟨(), congrArg (fun z => Ending.returned (Value.bool z)) (by unfold tkB; rw [decide_eq_true (show 0 ≤ x by omega)]; rfl), trivial, h⟩
  · try simp only [B4] at h1
    refine Lx I (Lx I (Lq I (q_pick_f I I I) (Ak I (c_ret (r_one I I ?_)))))
    exact fun _ h => ⟨(), congrArg (fun z => Ending.returned (Value.bool z)) (by unfold tkB; rw [decide_eq_false (show ¬ 0 ≤ x by omega)]; rfl), trivial, h⟩
theorem LH.rdok {x : HQ} {B : Nat} (h : x.Ok B) {l : List (Int × Int)} (hn : (l.map Prod.fst).Nodup) : ({ x with rd := l } : HQ).Ok B := ⟨h.q, h.s, h.l, h.ll, hn⟩
theorem LH.pin {x : HQ} {L : Lf} {B : Nat} (h : LH x L B) {t : Int} (ht : tkB t = true) (hl : t ∉ L.ld) {q : Q} (hm : q.M = (x.q.M.pin t 0).2) (hk : (x.setq q).Ok (B + 1)) : if (L.pin t).1 = 3 then LH { x.setq q with rd := mput 0 t x.rd } (L.pin t).2 (B + 1) else LH (x.setq q) (L.pin t).2 (B + 1) := by
  have hm2 : q.M = (L.pin t).2.M := by rw [hm, h.m, h.o.pin ht hl]
  have ho := h.o.pin_ok t
  split
  · rename_i h3
    have e0 : L.r.st = 0 := by
      unfold Lf.pin at h3
      split at h3
      · assumption
      · split at h3
        · cases h3
        · cases h3
    have hp : L.pin t = (3, { L with r := ⟨1, 0, 0, 1, true, false, nd0⟩, rt := some t }) := by unfold Lf.pin; rw [if_pos e0]
    have hr : mput 0 t x.rd = [(0, t)] := by
      rw [h.r]; unfold Lf.rds
      cases L.rt with
      | none => rfl
      | some u => simp [mput]
    rw [hp] at hm2 ho ⊢
    exact ⟨LH.rdok hk (by rw [hr]; simp), hm2, h.s, h.l, hr, ho⟩
  · rename_i h3
    have e0 : ¬ L.r.st = 0 := fun e => h3 (by unfold Lf.pin; rw [if_pos e])
    refine h.setq hk hm2 ?_ ?_ ?_ ho
    · unfold Lf.pin; rw [if_neg e0]; split <;> rfl
    · unfold Lf.pin; rw [if_neg e0]; split <;> rfl
    · unfold Lf.pin; rw [if_neg e0]; split <;> rfl
theorem LH.rd1 {x : HQ} {L : Lf} {B : Nat} (h : LH x L B) {t : Int} (hr : L.rt = some t) : x.rd = [(0, t)] := by rw [h.r]; unfold Lf.rds; rw [hr]
theorem LH.find0 {x : HQ} {L : Lf} {B : Nat} (h : LH x L B) (h2 : L.r.st = 2) : x.q.M.find 0 = some 0 := by rw [h.m, h.o.find, if_neg (by rw [h2]; decide)]
theorem LH.ready0 {x : HQ} {L : Lf} {B : Nat} (h : LH x L B) (h2 : L.r.st = 2) : (x.q.M.frI 0 2).isSome = true := by rw [h.m, h.o.frI1 2 (by decide), if_pos h2]; rfl
theorem LH.take {x : HQ} {L : Lf} {B : Nat} (h : LH x L B) (hB : B + 1 ≤ 60000) {l l' : LC} (h0 : x.lt[0]? = some l) (t : Int) (w : Bool) (hm : l'.m = Lt.takeL l.m t w) : LH (x.setL 0 l') (L.take t w) (B + 1) := by
  obtain ⟨l1, h1, h2⟩ := h.l0
  rw [h0] at h1; cases h1
  have hl : l.m.Ok B := h.ok.l l (List.mem_of_getElem? h0)
  have h3 := h.setL l' (C := B + 1) (by rw [hm]; exact Lt.take_ok hl t w) (Nat.le_succ B) hB
  rw [hm, h2] at h3
  exact h3
theorem LH.drop {x : HQ} {L : Lf} {B : Nat} (h : LH x L B) {l l' : LC} (h0 : x.lt[0]? = some l) (t : Int) (hm : l'.m = (Lt.dropL l.m t).2) : LH (x.setL 0 l') (L.drop t) B := by
  obtain ⟨l1, h1, h2⟩ := h.l0
  rw [h0] at h1; cases h1
  have hl : l.m.Ok B := h.ok.l l (List.mem_of_getElem? h0)
  have h3 := h.setL l' (C := B) (by rw [hm]; exact Lt.drop_ok hl t) (Nat.le_refl B) h.ok.b9
  rw [hm, h2] at h3
  exact h3
theorem LH.unpin {x : HQ} {L : Lf} {B : Nat} (h : LH x L B) (h2 : L.r.st = 2) {q : Q} (hm : q.M = (x.q.M.unpin 0).2) (hk : (x.setq q).Ok B) : LH (x.setq q) L.unpin B := by
  refine h.setq hk (by rw [hm, h.m, h.o.unpin h2]) ?_ ?_ ?_ h.o.unpin_ok
  · unfold Lf.unpin; split <;> rfl
  · unfold Lf.unpin; split <;> rfl
  · unfold Lf.unpin; split <;> rfl
theorem LH.setN {x : HQ} {L : Lf} {B : Nat} (h : LH x L B) (h2 : L.r.st = 2) {es : List En} (hr : Rise es) (hf : fitL (lfd es) = true) {q : Q} (hm : q.M = (x.q.M.setN 0 (lfd es)).2) (hk : (x.setq q).Ok B) : LH (x.setq q) (L.setN es) B :=
  h.setq hk (by rw [hm, h.m, h.o.setN h2]) rfl rfl rfl (h.o.setN_ok h2 hr hf)
theorem LH.claim {x : HQ} {L : Lf} {B : Nat} (h : LH x L B) {t : Int} (ht : tkB t = true) (hl : t ∉ L.ld) (h0 : L.r.st ≠ 0) (hc : L.cl = 0 ∨ L.ct = t) (h1 : L.cl ≤ 1) {q : Q} {C : Nat} (hm : q.M = (x.q.M.claim t).2) (hk : (x.setq q).Ok C) : LH (x.setq q) (L.claim t) C :=
  h.setq hk (by rw [hm, h.m, h.o.claim ht hl h0 hc]) rfl rfl rfl (h.o.claim_ok t h1)
theorem LH.give {x : HQ} {L : Lf} {B : Nat} (h : LH x L B) {t : Int} (hc : L.cl = 0 ∨ L.ct = t) {q : Q} {C : Nat} (hm : q.M = x.q.M.give t) (hk : (x.setq q).Ok C) : LH (x.setq q) L.give C :=
  h.setq hk (by rw [hm, h.m, h.o.give hc]) rfl rfl rfl h.o.give_ok
theorem claims_eq {L : Lf} (h : L.Ok) : L.M.claims L.ct = L.cl := by
  show (L.r :: L.rest).countP (isC L.ct) = _
  rw [List.countP_cons_of_neg (by simp [isC, h.r3])]
  unfold Lf.rest
  rw [List.countP_append, List.countP_replicate, List.countP_replicate]
  simp [isC, cf, free0]
def hasB (m : Lt.La) (t : Int) : Bool := decide (m.wr = t) || decide (t ∈ m.rd)
def Lf.noR (L : Lf) : Lf := { L with rt := none }
theorem LH.del {x : HQ} {L : Lf} {B : Nat} (h : LH x L B) {t : Int} (hr : L.rt = some t) : LH { x with rd := mdelT 0 x.rd } L.noR B := by
  have e : mdelT 0 x.rd = [] := by rw [h.rd1 hr]; simp [mdelT]
  rw [e]
  exact ⟨LH.rdok h.ok (by simp), h.m, h.s, h.l, rfl, ⟨h.o.n5, h.o.c2, h.o.s0, h.o.b0, h.o.st, h.o.nd⟩⟩
theorem LH.fillN {x : HQ} {L : Lf} {B : Nat} (h : LH x L.noR B) (h1 : L.r.st = 1) {q : Q} (hm : q.M = (x.q.M.fill 0 nvL.d).2) (hk : (x.setq q).Ok B) : LH (x.setq q) L.fill B :=
  by
    have hm2 : q.M = L.fill.M := by rw [hm, h.m, show nvL.d = lfd [] from rfl, h.o.fill (L := L.noR) h1]; rfl
    exact ⟨hk, hm2, h.s, h.l, h.r, h.o.fill_ok (L := L.noR) h1⟩
theorem lpin {x : HQ} {L : Lf} {B : Nat} (h : LH x L B) {t : Int} (ht : tkB t = true) (hl : t ∉ L.ld) (hB : B + 1 ≤ 60000) : Con Tryz.prog 121 [ptV x.bh, .int .i64 t, .int .i64 0] (fun _ => True) (x.H) (fun y : HQ => .int .i64 (L.pin t).1) (fun y => y.bh = x.bh ∧ LH y (L.pin t).2 (B + 1)) (fun y => y.H) := by
  intro w hE hH
  refine enter (n := 28) (vs := [ptV x.bh, .int .i64 t, .int .i64 0]) (St w (dom (x.H)) (x.H)) func121 I I I (St.init hH) ?_
  refine Cs I (Ak I (c_seq (Cs I (Lm I (Lm I (l_e I (e_callH [] (his h) I I I call173 I Tt ?_)))))))
  intro _ _
  refine Pre.world (St _ _ (HQ.H (x))) Ih ?_
  refine Lq I (q_not I I) (Nk (Sb 11 false I (I) (c_false I (c_skip (Kt (Cs I (Lm I (Lc I (Lfa U91 I Z86 I (Lo G86 0 I (Lm I (Lm I (l_e I (e_callH [] (hpin h.ok hB t 0 (i64_in (by decide) (by decide))) I I I call174 I Tt ?_))))))))))))))
  rintro q ⟨hm, hk⟩
  refine Pre.world (St _ _ (HQ.H (x.setq q))) Ih ?_
  refine Sv' 18 (.int .i64 (L.pin t).1) I (by rw [h.m, h.o.pin ht hl]) ?_
  have hp := h.pin ht hl hm hk
  refine Ak I (c_seq (Cs I (Lm I (Lq I (q_eql I I I) (Nk ?_)))))
  refine Pre.caseB 20 I (fun h3 => ?_) (fun h3 => ?_)
  · try simp only [B4] at h3
    rw [if_pos h3] at hp
    refine c_true I (Cr I (Lm I (Lc I (Lfa U91 I sizeOf89 I (Lo isAgg89 0 I (Lm I (Lm I (pull2 (l_e I (e_putT (0 : Int) t I I U89 keyI I I I (Nk (Cs I (Lm I (Ak I (c_ret (pull5 (pull5 (pull5 (pull3 (pull5 (pull5 (r_one I I ?_))))))))))))))))))))))
    exact fun _ h => ⟨{ x.setq q with rd := mput 0 t x.rd }, rfl, ⟨rfl, hp⟩, h⟩
  · try simp only [B4] at h3
    rw [if_neg h3] at hp
    refine c_false I (c_skip (Kt (Cs I (Lm I (Ak I (c_ret (r_one I I ?_)))))))
    exact fun _ h => ⟨x.setq q, rfl, ⟨rfl, hp⟩, h⟩
theorem lload {x : HQ} {L : Lf} {B : Nat} (h : LH x L B) {t : Int} (hr : L.rt = some t) (h1 : L.r.st = 1) : Con Tryz.prog 85 [ptV x.bh, .int .i64 t, .int .i64 0] (fun _ => True) (x.H) (fun y : HQ × Value × Bool => .tuple #[y.2.1, .bool y.2.2]) (fun y => y.1.bh = x.bh ∧ LH y.1 L.fill B) (fun y => y.1.H) := by
  intro w hE hH
  have hrd := h.rd1 hr
  refine enter (n := 48) (vs := [ptV x.bh, .int .i64 t, .int .i64 0]) (St w (dom (x.H)) (x.H)) func85 I I I (St.init hH) ?_
  refine c_seq ?_
  have hmg : mget (0 : Int) x.rd = some t := by rw [hrd]; rfl
  refine Cr I (Las I (Ak I (c_seq (Cs I (Lm I (Lc I (Lfa U91 I sizeOf89 I (Lo isAgg89 0 I (Lm I (Lq I (q_lookupOk (kf := kI) (vf := kI) (0 : Int) I U89 keyI zeroValue3 I I (Hat 2 I)) (Lm I (Lq I (q_extract I I I) (Lq I (q_extract I I I) (Las I (Ak I (c_seq (Sv' 8 (.int .i64 t) I (by rw [hmg]) (Sv' 9 (.bool true) I (by rw [hmg]; rfl) (Cr I (Lm I (Lq I (q_not I I) (Lm I (Lm I ?_)))))))))))))))))))))))
  refine Lm I (Lq I (q_neq I I I) (Lq I (q_pick_f I I I) (Nk (Sb 27 false I (by simp) (c_false I (c_skip (Kt (Cs I (Lm I (Lc I (Lfa U91 I sizeOf89 I (Lo isAgg89 0 I (Lm I (pull2 (l_e I (e_deleteT (0 : Int) I I U89 keyI I I (Nk (Cs I (Lm I (Lm I (pull5 (pull5 (pull5 ?_)))))))))))))))))))))))
  refine pull3 (pull5 (pull5 ?_))
  have hd := h.del hr
  refine Pre.world (St _ _ (HQ.H { x with rd := mdelT 0 x.rd })) Ih ?_
  refine l_e I (e_callH [] (hread hd) I I I call117 I Tt ?_)
  intro _ _
  refine Pre.world (St _ _ (HQ.H ({ x with rd := mdelT 0 x.rd }))) Ih ?_
  refine Lm I (Lq I (q_extract I I I) (Lq I (q_extract I I I) (l_e I (e_alloc I I I zeroValue135 ?_))))
  intro bn
  refine cells_eq (show _ = nv0.c from I) (l_e I (e_storeAgg I I Z135 I I I (NV.one _) (by show 0 + 5 ≤ 5; decide) (cells_eq (show Sep.splice _ 0 (nvL).c = (nvL).c from Sep.splice_all I) (Ak I (c_seq (row0 154 Ms.enc none (row0 77 (Kv.enc 8) none (row0 3 (encI .i64) none (row0 79 En.enc none (pull10 (pull10 (pull10 (pull10 (pull10 (pull10 (pull9 (pull9 (pull9 (pull9 (pull10 (D4 [(0,O),(1,O),(2,O),(3,O),(4,O),(5,O),(6,V),(7,O),(8,O),(9,W),(10,W)] [9, 10] [(_,O),(_,O),(_,O),(_,O),(_,O),(_,O),(_,V),(_,O),(_,O),(_,W),(_,W)] (fun w2 => (cellsE (HQ.bh ({ x with rd := mdelT 0 x.rd })) 91 (HQ.cells ({ x with rd := mdelT 0 x.rd }))).at w2 ∧ (cellsE bn 135 (nvL.c)).at w2) I I I I St.drawn (H2 5 0 I) (Dm I (Dc I ?_)))))))))))))))))))))))
  refine Dfa U91 I Z86 I (Dq I (q_loadC I G86 I (fun _ h => h.1) I) (Dm I (Dq I (q_loadCAgg (nvL.c) I G135 Z135 I (fun _ h => h.2) (I) (I)) (d_e I (e_callH [_] (hfill hd.ok nvL (ndL_sm 1000) 0) I I I call133 I Tt ?_)))))
  rintro ⟨q, v⟩ ⟨hm, hk⟩
  refine Pre.world (St _ _ (_ :: _ :: _ :: _ :: _ :: _ :: HQ.H (({ x with rd := mdelT 0 x.rd } : HQ).setq q))) Ih ?_
  refine d_held (H2 6 0 I) (Dq I (q_extract I I I) (Dq I (q_extract I I I) (d_t I (e_q I I (q_assign I I) (d_t I (e_q I I (q_assign I I) (d_nil (Kt (c_ret (drop0 (drop0 (drop0 (drop0 (drop0 (drop0 (r_many (rs := [.tmp 6, .tmp 7]) I I ?_))))))))))))))))
  exact fun _ h => ⟨(HQ.setq { x with rd := mdelT 0 x.rd } q, v, (HQ.q x).M.fill 0 nvL.d |>.1.2), rfl, ⟨rfl, hd.fillN h1 hm hk⟩, h⟩
theorem llatch {x : HQ} {L : Lf} {B : Nat} (h : LH x L B) {t : Int} (ht : tkB t = true) (h2 : L.r.st = 2) {l : LC} (h0 : x.lt[0]? = some l) : Con Tryz.prog 134 [ptV x.bh, .int .i64 t, .int .i64 0] (fun _ => True) (x.H) (fun _ : Unit => ptV l.b) (fun _ => True) (fun _ => x.H) := by
  intro w hE hH
  refine enter (n := 31) (vs := [ptV x.bh, .int .i64 t, .int .i64 0]) (St w (dom (x.H)) (x.H)) func134 I I I (St.init hH) ?_
  refine c_seq ?_
  have hll : 0 < (x.lt.map LC.b).length := by rw [List.length_map]; exact (List.getElem?_eq_some_iff.1 h0).1
  refine Cr I (Ak I (c_seq (Cs I (Lm I (l_e I (e_call_00 (htask t) I I I call195 I Tt ?_))))))
  intro _ _
  refine Lq I (q_not I I) (Lm I (Sb 10 false I (by rw [ht]; rfl) (Lm I (Lc I (Lfa U91 I Z86 I (Lo G86 0 I (Lm I (l_e I (e_callH [] (hready h.ok 0) I I I call196 I Tt ?_)))))))))
  intro _ _
  refine Pre.world (St _ _ (HQ.H (x))) Ih ?_
  refine Sv' 16 (.bool true) I (by rw [h.ready0 h2]) (Lq I (q_not I I) (Lq I (q_pick_f I I I) (Nk (c_false I (c_skip (Ks (D4 [(0,O),(1,O),(2,O),(3,O),(4,O),(5,O),(6,O),(7,O),(8,O),(9,V),(10,O),(11,O),(12,W)] [12] [(_,O),(_,O),(_,O),(_,O),(_,O),(_,O),(_,O),(_,O),(_,O),(_,V),(_,O),(_,O),(_,W)] (fun w2 => (cellsE x.bh 91 x.cells).at w2 ∧ RdV w2 x.vL encPt (x.lt.map LC.b)) I I I I St.drawn (fun _ h => ⟨h.at 0 rfl, h.rd 1 rfl⟩) (Dm I (Dc I (Dfa U91 I Z88 I (Dq I (q_loadC I isAgg88 I (fun _ h => h.1) I) (Dm I (Dc I (Dfa U91 I Z86 I (Dq I (q_loadC I G86 I (fun _ h => h.1) I) (Dm I (d_e I (e_callH [] (hplace h.ok 0) I I I call194 I Tt ?_))))))))))))))))))
  intro _ _
  refine Pre.world (St _ _ (HQ.H (x))) Ih ?_
  refine Sv' 28 (.int .i64 ((0 : Nat) : Int)) I (by rw [h.find0 h2]; rfl) (d_held (fun _ h => ⟨h.at 0 rfl, h.rd 1 rfl⟩) (Dq I (q_indexV 0 I U88 sizeOf203 I (fun _ h => h.2) I I (by omega)) ?_))
  refine d_q I (q_loadV 0 0 I isAgg203 I I (fun _ h => h.2) (show (x.lt.map LC.b)[0]? = some l.b by rw [List.getElem?_map, h0]; rfl) I) I I ?_
  refine d_t I (e_q I I (q_assign I I) (d_nil (Kt (c_ret (r_one I I ?_)))))
  exact fun _ h => ⟨(), rfl, trivial, h⟩
theorem lhas0 {l : LC} {n : Nat} (hm : l.m.Ok n) (hn : n ≤ 60000) (t : Int) : Con Tryz.prog 175 [ptV l.b, .int .i64 t] (fun _ => True) l.H (fun _ : Unit => .bool (hasB l.m t)) (fun _ => True) (fun _ => l.H) := by
  intro w hE hH
  have hql := hm.lens
  refine enter (n := 15) (vs := [ptV l.b, .int .i64 t]) (St w (dom l.H) l.H) func175 I I I (St.init hH) ?_
  refine Cs I (Ak I (Cs I (Lm I (l_e I (e_callH [] (Lt.writer_spec hm hn l.b l.vR l.vQ) I I I call247 I Tt ?_)))))
  intro _ _
  refine Lm I (Lq I (q_eql I I I) (Lm I ?_))
  refine Pre.caseB 9 I (fun h1 => ?_) (fun h1 => ?_)
  · try simp only [B4] at h1
    refine Lx I (Lx I (Lx I (Lx I (Lq I (q_pick_t I I I) (Ak I (c_ret (r_one I I ?_)))))))
    exact fun _ h => ⟨(), congrArg (fun z => Ending.returned (Value.bool z)) (by unfold hasB; rw [decide_eq_true h1]; rfl), trivial, h⟩
  · try simp only [B4] at h1
    refine Lm I (l_e I (e_callH [] (Lt.readers_spec hm hn l.b l.vR l.vQ) I I I call248 I Tt ?_))
    intro v _
    refine Lm I (l_e I (e_call_00 (Lt.contains_spec l.m.rd t (by omega)) I I I call105 I (Hrd 0 I) ?_))
    intro _ _
    refine Lq I (q_pick_f I I I) (Ak I (c_ret (drop0 (r_one I I ?_))))
    exact fun _ h => ⟨(), congrArg (fun z => Ending.returned (Value.bool z)) (by unfold hasB; rw [decide_eq_false h1]; rfl), trivial, h⟩
theorem lhas {x : HQ} {L : Lf} {B : Nat} (h : LH x L B) {l : LC} (h0 : x.lt[0]? = some l) (t : Int) : Con Tryz.prog 175 [ptV l.b, .int .i64 t] (fun _ => True) x.H (fun _ : Unit => .bool (hasB l.m t)) (fun _ => True) (fun _ => x.H) :=
  HQ.lookL (A' := fun _ : Unit => []) h0 (lhas0 (h.ok.l l (List.mem_of_getElem? h0)) h.ok.b9 t) (fun _ _ _ => trivial)
theorem lwriter {x : HQ} {L : Lf} {B : Nat} (h : LH x L B) {l : LC} (h0 : x.lt[0]? = some l) : Con Tryz.prog 247 [ptV l.b] (fun _ => True) x.H (fun _ : Unit => .int .i64 l.m.wr) (fun _ => True) (fun _ => x.H) :=
  HQ.lookL (A' := fun _ : Unit => []) h0 (Lt.writer_spec (h.ok.l l (List.mem_of_getElem? h0)) h.ok.b9 l.b l.vR l.vQ) (fun _ _ _ => trivial)
theorem ltake {x : HQ} {L : Lf} {B : Nat} (h : LH x L B) {l : LC} (h0 : x.lt[0]? = some l) (t : Int) (wr : Bool) : Con Tryz.prog 135 [ptV l.b, .int .i64 t, .bool wr] (fun _ => True) x.H (fun _ : Value × Value => .bool (Lt.tryB l.m t wr)) (fun _ => True) (fun v => (x.setL 0 ⟨l.b, v.1, v.2, Lt.takeL l.m t wr⟩).H) :=
  HQ.liftL (A' := fun _ : Value × Value => []) (ln := fun v => ⟨l.b, v.1, v.2, Lt.takeL l.m t wr⟩) h0 (Lt.take_spec (h.ok.l l (List.mem_of_getElem? h0)) h.ok.b9 l.b l.vR l.vQ t wr) (fun _ _ _ => trivial) (fun _ => rfl)
theorem ldrop {x : HQ} {L : Lf} {B : Nat} (h : LH x L B) {l : LC} (h0 : x.lt[0]? = some l) (t : Int) : Con Tryz.prog 176 [ptV l.b, .int .i64 t] (fun _ => True) x.H (fun v : Value × Value × Value => v.1) (fun _ => True) (fun v => rowE v.1 3 (encI .i64) (Lt.dropL l.m t).1 :: (x.setL 0 ⟨l.b, v.2.1, v.2.2, (Lt.dropL l.m t).2⟩).H) :=
  HQ.liftL (A' := fun v : Value × Value × Value => [rowE v.1 3 (encI .i64) (Lt.dropL l.m t).1]) (ln := fun v => ⟨l.b, v.2.1, v.2.2, (Lt.dropL l.m t).2⟩) h0 (Lt.drop_spec (h.ok.l l (List.mem_of_getElem? h0)) h.ok.b9 l.b l.vR l.vQ t) (fun _ _ _ => trivial) (fun _ => rfl)
theorem ltk {x : HQ} {L : Lf} {B : Nat} (h : LH x L B) {t : Int} (ht : tkB t = true) (h2 : L.r.st = 2) (hB : B + 1 ≤ 60000) (wr : Bool) : Con Tryz.prog 86 [ptV x.bh, .int .i64 t, .int .i64 0, .bool wr] (fun _ => True) (x.H) (fun y : HQ × Bool => .bool y.2) (fun y => y.1.bh = x.bh ∧ LH y.1 (L.take t wr) (B + 1)) (fun y => y.1.H) := by
  intro w hE hH
  obtain ⟨l, h0, hlm⟩ := h.l0
  refine enter (n := 22) (vs := [ptV x.bh, .int .i64 t, .int .i64 0, .bool wr]) (St w (dom (x.H)) (x.H)) func86 I I I (St.init hH) ?_
  refine Cs I (Ak I (Cs I (Lm I (Lm I (Lm I (l_e I (e_callH [] (llatch h ht h2 h0) I I I call134 I Tt ?_)))))))
  intro _ _
  refine Pre.world (St _ _ (HQ.H (x))) Ih ?_
  refine Ak I (Cs I (Lm I (Lq I (q_nep I underlying203 I I) (Lm I (Sb 16 true I (by simp) (Lm I (Lm I (Lm I (l_e I (e_callH [] (ltake h h0 t wr) I I I call135 I Tt ?_))))))))))
  intro v _
  refine Pre.world (St _ _ (HQ.H (x.setL 0 ⟨l.b, v.1, v.2, Lt.takeL l.m t wr⟩))) Ih ?_
  refine Lq I (q_pick_t I I I) (Ak I (c_ret (r_one I I ?_)))
  exact fun _ hh => ⟨(x.setL 0 ⟨l.b, v.1, v.2, Lt.takeL l.m t wr⟩, Lt.tryB l.m t wr), rfl, ⟨rfl, h.take hB h0 t wr rfl⟩, hh⟩
theorem lleave {x : HQ} {L : Lf} {B : Nat} (h : LH x L B) {t : Int} (ht : tkB t = true) (h2 : L.r.st = 2) (hh : hasB L.la t = true) : Con Tryz.prog 122 [ptV x.bh, .int .i64 t, .int .i64 0] (fun _ => True) (x.H) (fun y : HQ × Value => y.2) (fun y => y.1.bh = x.bh ∧ LH y.1 (L.leave t) B) (fun y => y.1.H) := by
  intro w hE hH
  obtain ⟨l, h0, hlm⟩ := h.l0
  refine enter (n := 31) (vs := [ptV x.bh, .int .i64 t, .int .i64 0]) (St w (dom (x.H)) (x.H)) func122 I I I (St.init hH) ?_
  refine Cs I (Ak I (Cs I (Lm I (Lm I (Lm I (l_e I (e_callH [] (llatch h ht h2 h0) I I I call134 I Tt ?_)))))))
  intro _ _
  refine Pre.world (St _ _ (HQ.H (x))) Ih ?_
  refine Ak I (c_seq (Cs I (Lm I (Lq I (q_eqp I underlying203 I I) (Lm I (Sb 15 false I (by simp) (Lm I (Lm I (l_e I (e_callH [] (lhas h h0 t) I I I call175 I Tt ?_))))))))))
  intro _ _
  refine Pre.world (St _ _ (HQ.H (x))) Ih ?_
  refine Sv' 18 (.bool true) I (by rw [hlm, hh]) (Lq I (q_not I I) (Lq I (q_pick_f I I I) (Nk (c_false I (c_skip (Kt (Cs I (Lm I (Lm I (l_e I (e_callH [] (ldrop h h0 t) I I I call176 I Tt ?_)))))))))))
  intro v _
  refine Pre.world (St _ _ (_ :: HQ.H ((x.setL 0 ⟨l.b, v.2.1, v.2.2, (Lt.dropL l.m t).2⟩)))) Ih ?_
  have hd := h.drop h0 t (l' := ⟨l.b, v.2.1, v.2.2, (Lt.dropL l.m t).2⟩) rfl
  refine Ak I (Cs I (Lm I (Lc I (Lfa U91 I Z86 I (Lo G86 1 I (Lm I (l_e I (e_callH [_] (hunpin hd.ok 0) I I I call177 I Tt ?_))))))))
  rintro q ⟨hm, hk⟩
  refine Pre.world (St _ _ (_ :: HQ.H ((x.setL 0 ⟨l.b, v.2.1, v.2.2, (Lt.dropL l.m t).2⟩).setq q))) Ih ?_
  refine Nk (Cs I (Lm I (Ak I (c_ret (drop0 (r_one I I ?_))))))
  exact fun _ hh => ⟨((x.setL 0 ⟨l.b, v.2.1, v.2.2, (Lt.dropL l.m t).2⟩).setq q, v.1), rfl, ⟨rfl, hd.unpin h2 hm hk⟩, hh⟩
theorem LH.lq {x : HQ} {L : Lf} {B : Nat} (h : LH x L B) {k : Nat} {l : LC} (hk : x.lt[k]? = some l) (t : Int) (ht : t ∈ l.m.q.map Prod.fst) : t ∈ L.la.q.map Prod.fst := by
  have hl : L.las[k]? = some l.m := by rw [← h.l, List.getElem?_map, hk]; rfl
  unfold Lf.las at hl
  cases k with
  | zero => simp at hl; rw [hl]; exact ht
  | succ k =>
    rw [List.getElem?_cons_succ, List.getElem?_replicate] at hl
    split at hl
    · simp at hl; rw [← hl] at ht; simp [Lt.newL] at ht
    · cases hl
theorem LH.l0q {x : HQ} {L : Lf} {B : Nat} (h : LH x L B) {t : Int} (hn : ∀ l ∈ x.lt, t ∉ l.m.q.map Prod.fst) : t ∉ L.la.q.map Prod.fst := by
  obtain ⟨l, h0, h1⟩ := h.l0
  rw [← h1]; exact hn l (List.mem_of_getElem? h0)
theorem take_not {α : Type} {p : α → Prop} {l : List α} {k : Nat} {y : α} (h : ∀ z ∈ l.take k, ¬ p z) (hy : l[k]? = some y) (hn : ¬ p y) : ∀ z ∈ l.take (k + 1), ¬ p z := fun z hz => by
  rw [List.take_add_one, hy] at hz
  rcases List.mem_append.1 hz with hz | hz
  · exact h z hz
  · simp at hz; subst hz; exact hn
theorem LH.nd2 {x : HQ} {L : Lf} {B : Nat} (h : LH x L B) (h2 : L.r.st = 2) : ∃ es, L.r.nd = lfd es ∧ Rise es ∧ fitL (lfd es) = true ∧ (lfd es).Sm 1000 := by
  obtain ⟨es, e, hr, hf⟩ := h.o.nd h2
  refine ⟨es, e, hr, hf, ?_⟩
  have hs := h.ok.q.ok.es L.r (by rw [h.m]; exact List.mem_cons_self ..)
  rwa [e] at hs
theorem mis_spec (y : Lt.Wt) (b : Nat) (t : Int) : Con Tryz.prog 131 [.agg (Lt.encW.f y).toArray, .pointer (some ⟨b, 0, none⟩)] (fun _ => True) [cellsE b 3 [.int .i64 t]] (fun _ : Unit => .bool (decide (y.1 = t))) (fun _ => True) (fun _ => [cellsE b 3 [.int .i64 t]]) := by
  intro w hE hH
  refine enter (n := 8) (vs := [.agg (Lt.encW.f y).toArray, .pointer (some ⟨b, 0, none⟩)]) (St w [b] [cellsE b 3 [.int .i64 t]]) func131 I I I (St.init hH) ?_
  refine Cs I (l_e I (e_box I I I I ?_))
  intro b1
  refine Ak I (Cs I (Lfa U241 I Z3 I (Lo G3 0 I (Lo G3 1 I (Lq I (q_eql I I I) (Ak I (c_ret (r_one I I ?_))))))))
  exact fun _ h => ⟨(), rfl, trivial, h.drop⟩
theorem mindex_spec {va : Value} (l : List Lt.Wt) (b : Nat) (t : Int) (hn : l.length ≤ 65536) : Con Tryz.prog 188 [va, .func (.func 131) #[] #[.pointer (some ⟨b, 0, none⟩)]] (fun _ => True) [rowE va 241 Lt.encW l, cellsE b 3 [.int .i64 t]] (fun z : Int => .int .i64 z) (fun z => 0 ≤ z ↔ ∃ y ∈ l, y.1 = t) (fun _ => [rowE va 241 Lt.encW l, cellsE b 3 [.int .i64 t]]) := by
  intro w hE hH
  refine enter (n := 19) (vs := [va, .func (.func 131) #[] #[.pointer (some ⟨b, 0, none⟩)]]) (St w (dom [rowE va 241 Lt.encW l, cellsE b 3 [.int .i64 t]]) [rowE va 241 Lt.encW l, cellsE b 3 [.int .i64 t]]) func188 I I I (St.init hH) ?_
  refine Cs I (Ak I (c_seq (Cs I (Lm I (Lq I (q_lenV I U200 I (Hrd 0 I)) (Lm I (Nk (c_block ?_))))))))
  refine c_loop1 (fun (k : Nat) => [(0, va), (1, .func (.func 131) #[] #[.pointer (some ⟨b, 0, none⟩)]), (7, .int .i64 (l.length : Int)), (8, .int .i64 (k : Int))]) (fun (k : Nat) => St w (dom [rowE va 241 Lt.encW l, cellsE b 3 [.int .i64 t]]) [rowE va 241 Lt.encW l, cellsE b 3 [.int .i64 t]]) (fun (k : Nat) => k ≤ l.length ∧ ∀ z ∈ l.take k, ¬ z.1 = t) (fun (k : Nat) => l.length - k) (0) ⟨Nat.zero_le _, by simp⟩ (Sn I (Sn I (Sn I (Sn I (Sub.nil))))) Ih ?_
  intro k hp
  refine c_seq ?_
  obtain ⟨hk, hx⟩ := hp
  refine Cr I (Lq I (q_lss I I I) (Ns ?_))
  refine Pre.caseB 9 I (fun hlt => ?_) (fun hlt => ?_)
  · simp only [B4] at hlt
    obtain ⟨y, hy⟩ : ∃ y, l[k]? = some y := ⟨_, List.getElem?_eq_getElem (by omega)⟩
    refine c_true I (c_skip (Ks (c_block (Cs I (Lm I (Ak I (Cs I (Lm I (Lm I (Lm I (Lq I (q_indexV k I U200 Z241 I (Hrd 0 I) I I (by omega)) (Lq I (q_loadVAgg k I isAgg241 Z241 I I (Hrd 0 I) hy) (pull1 (l_e I (e_callV (β := Unit) (X' := fun _ => St w _ [cellsE b 3 [.int .i64 t], rowE va 241 Lt.encW l]) (v := fun _ => .bool (decide (y.1 = t))) (p := fun _ => True) I I I I call131 I (fun w2 h => Con.frame (F := [rowE va 241 Lt.encW l]) (mis_spec y b t) h trivial) ?_)))))))))))))))
    intro _ _
    refine Nk ?_
    refine Pre.caseB 16 I (fun he => ?_) (fun he => ?_)
    · simp only [B4] at he
      refine c_true I (Cs I (Lm I (Ak I (c_ret (k_block_ret (k_then_ret (k_then_ret (k_block_ret (k_then_ret (pull1 (r_one I I ?_)))))))))))
      exact fun _ h => ⟨(k : Int), rfl, ⟨fun _ => ⟨y, List.mem_of_getElem? hy, he⟩, fun _ => Int.natCast_nonneg k⟩, h⟩
    · simp only [B4] at he
      refine c_false I (c_skip (k_block (Kt (Cr I (Lq I (q_inc I I I (by omega)) (Lm I (l_nil (pull1 ?_))))))))
      exact k_round (k + 1) (by omega) ⟨by omega, take_not hx hy he⟩ (Sub.cons I (Sub.cons I (Sub.cons I (Sub.cons I (Sub.nil))))) (fun _ h => h)
  · simp only [B4] at hlt
    refine c_false I (c_exit (k_then_exit (k_then_exit (k_block_exit (Kt (Cs I (Ak I (c_ret (r_one I I ?_)))))))))
    exact fun _ h => ⟨-1, rfl, ⟨fun h0 => absurd h0 (by decide), fun ⟨z, hz, e⟩ => absurd e (by rw [List.take_of_length_le (by omega)] at hx; exact hx z hz)⟩, h⟩
theorem mcont_spec {va : Value} (l : List Lt.Wt) (b : Nat) (t : Int) (hn : l.length ≤ 65536) : Con Tryz.prog 129 [va, .func (.func 131) #[] #[.pointer (some ⟨b, 0, none⟩)]] (fun _ => True) [rowE va 241 Lt.encW l, cellsE b 3 [.int .i64 t]] (fun _ : Unit => .bool (decide (t ∈ l.map Prod.fst))) (fun _ => True) (fun _ => [rowE va 241 Lt.encW l, cellsE b 3 [.int .i64 t]]) := by
  intro w hE hH
  refine enter (n := 9) (vs := [va, .func (.func 131) #[] #[.pointer (some ⟨b, 0, none⟩)]]) (St w (dom [rowE va 241 Lt.encW l, cellsE b 3 [.int .i64 t]]) [rowE va 241 Lt.encW l, cellsE b 3 [.int .i64 t]]) func129 I I I (St.init hH) ?_
  refine Cs I (Ak I (Cs I (Lm I (Lm I (l_e I (e_call_22 (mindex_spec l b t hn) I I I call188 I Tt ?_))))))
  intro z hz
  refine Lq I (q_geq I I I) (Ak I (c_ret (r_one I I ?_)))
  exact fun _ h => ⟨(), congrArg (fun z => Ending.returned (Value.bool z)) (by rw [decide_eq_decide, hz]; simp [List.mem_map]), trivial, h⟩
theorem lqueue {x : HQ} {L : Lf} {B : Nat} (h : LH x L B) {k : Nat} {l : LC} (h0 : x.lt[k]? = some l) : Con Tryz.prog 130 [ptV l.b] (fun _ => True) x.H (fun v : Value => v) (fun _ => True) (fun v => rowE v 241 Lt.encW l.m.q :: x.H) :=
  HQ.lookL (A' := fun v : Value => [rowE v 241 Lt.encW l.m.q]) h0 (Lt.queue_spec (h.ok.l l (List.mem_of_getElem? h0)) h.ok.b9 l.b l.vR l.vQ) (fun _ _ _ => trivial)
theorem lmay {x : HQ} {L : Lf} {B : Nat} (h : LH x L B) (t : Int) : Con Tryz.prog 82 [ptV x.bh, .int .i64 t] (fun _ => True) (x.H) (fun _ : Unit => .bool (L.mayH t)) (fun _ => True) (fun _ => x.H) := by
  intro w hE hH
  refine enter (n := 27) (vs := [ptV x.bh, .int .i64 t]) (St w (dom (x.H)) (x.H)) func82 I I I (St.init hH) ?_
  refine c_seq ?_
  have hll : (x.lt.map LC.b).length ≤ 64 := by rw [List.length_map, h.ok.ll]; exact h.ok.q.ok.n64
  refine Cr I (l_e I (e_box I I I I ?_))
  intro bt
  refine Ak I (c_seq (Cs I (Lm I (Lc I (Lfa U91 I Z88 I (Lo isAgg88 1 I (Lq I (q_lenV I U88 I (Hrd 2 I)) (Lm I (Nk (c_block ?_))))))))))
  refine c_loop1 (fun (k : Nat) => [(0, ptV x.bh), (3, .pointer (some ⟨bt, 0, none⟩)), (10, x.vL), (11, .int .i64 ((x.lt.map LC.b).length : Int)), (12, .int .i64 (k : Int))]) (fun (k : Nat) => St w (dom x.H) (cellsE bt 3 [.int .i64 t] :: HQ.H x)) (fun (k : Nat) => k ≤ (x.lt.map LC.b).length ∧ ∀ z ∈ x.lt.take k, ¬ t ∈ z.m.q.map Prod.fst) (fun (k : Nat) => (x.lt.map LC.b).length - k) (0) ⟨Nat.zero_le _, by simp⟩ (Sn I (Sn I (Sn I (Sn I (Sn I (Sub.nil)))))) Ih ?_
  intro k hp
  refine c_seq ?_
  obtain ⟨hk, hx⟩ := hp
  refine Cr I (Lq I (q_lss I I I) (Ns ?_))
  refine Pre.caseB 13 I (fun hlt => ?_) (fun hlt => ?_)
  · try simp only [B4] at hlt
    obtain ⟨l, h0⟩ : ∃ l, x.lt[k]? = some l := ⟨_, List.getElem?_eq_getElem (by rw [List.length_map] at hlt; omega)⟩
    have hy : (x.lt.map LC.b)[k]? = some l.b := by rw [List.getElem?_map, h0]; rfl
    have hql := (h.ok.l l (List.mem_of_getElem? h0)).lens
    have hb9 := h.ok.b9
    refine c_true I (c_skip (Ks (c_block (Cs I (Lq I (q_indexV k I U88 sizeOf203 I (Hrd 2 I) I I (by omega)) (Lq I (q_loadV k 0 I isAgg203 I I (Hrd 2 I) hy I) (Ak I (Cs I (Lm I (l_e I (e_callH [_] (lqueue h h0) I I I call130 I Tt ?_)))))))))))
    intro vq _
    refine Pre.world (St _ _ (_ :: _ :: HQ.H (x))) Ih ?_
    refine Lq I (q_makeFunc (fn := .func 0) (us := #[.pointer (some ⟨bt, 0, none⟩)]) 131 I (vs := #[]) (fun a k => by simp) (fun a k => by simp [k.eval (x := .tmp 3) rfl])) (pull1 (l_e I (e_call_22 (mcont_spec l.m.q bt t (by omega)) I I I call129 I Tt ?_)))
    intro _ _
    refine Nk ?_
    refine Pre.caseB 19 I (fun hc => ?_) (fun hc => ?_)
    · try simp only [B4] at hc
      refine c_true I (Cs I (Ak I (c_ret (k_block_ret (k_then_ret (k_then_ret (k_block_ret (k_then_ret (pull7 (pull7 (pull7 (pull7 (pull7 (pull7 (pull7 (pull7 (r_one I I ?_)))))))))))))))))
      exact fun _ hh => ⟨(), congrArg (fun z => Ending.returned (Value.bool z)) (by unfold Lf.mayH; rw [decide_eq_true (h.lq h0 t hc)]; rfl), trivial, hh.drop.drop⟩
    · try simp only [B4] at hc
      refine c_false I (c_skip (k_block (Kt (Cr I (Lq I (q_inc I I I (by omega)) (Lm I (l_nil (drop0 (pull6 (pull6 (pull6 (pull6 (pull6 (pull6 (pull6 ?_)))))))))))))))
      exact k_round (k + 1) (by omega) ⟨by omega, take_not hx h0 hc⟩ (Sub.cons I (Sub.cons I (Sub.cons I (Sub.cons I (Sub.cons I (Sub.nil)))))) (fun _ h => h)
  · try simp only [B4] at hlt
    have hnq := h.l0q (t := t) (fun l hl => hx l (by rw [List.length_map] at hlt hk; rw [List.take_of_length_le (by omega)]; exact hl))
    refine c_false I (c_exit (k_then_exit (k_then_exit (k_block_exit (Ks (D4 [(0,O),(1,O),(2,O),(3,O),(4,O),(5,W),(6,W)] [5, 6] [(_,O),(_,O),(_,O),(_,O),(_,O),(_,W),(_,W)] (fun w2 => (cellsE (HQ.bh (x)) 91 (HQ.cells (x))).at w2 ∧ (cellsE bt 3 ([.int .i64 t])).at w2) I I I I St.drawn (H2 1 0 I) (Dm I (Dc I (Dfa U91 I Z86 I (Dq I (q_loadC I G86 I (fun _ h => h.1) I) (Dq I (q_loadC I G3 I (fun _ h => h.2) I) (d_t I (e_callH [_] (hmayq h.ok t) I I I call132 I Tt ?_)))))))))))))
    intro _ _
    refine Pre.world (St _ _ (_ :: HQ.H (x))) Ih ?_
    refine d_t I (e_q I I (q_assign I I) (d_nil (Kt (c_ret (r_one I I ?_)))))
    exact fun _ hh => ⟨(), congrArg (fun z => Ending.returned (Value.bool z)) (by unfold Lf.mayH; rw [decide_eq_false hnq, h.m]; rfl), trivial, hh.drop⟩
theorem Con.map {P : Program} {f : FuncId} {vs : List Value} {E : World → Prop} {H : List Ent} {β γ : Type} {u : Value} {p : β → Prop} {p' : γ → Prop} {HB : γ → List Ent} (g : β → γ) (s : Con P f vs E H (fun _ : β => u) p (fun b => HB (g b))) (hg : ∀ b, p b → p' (g b)) : Con P f vs E H (fun _ : γ => u) p' HB := fun w he hh => (s w he hh).mono (fun e w' ⟨b, h1, h2, h3⟩ => ⟨g b, h1, hg b h2, h3⟩)
theorem lnode {x : HQ} {L : Lf} {B : Nat} (h : LH x L B) (h2 : L.r.st = 2) : Con Tryz.prog 116 [ptV x.bc, .int .i64 0] (fun _ => True) x.H (fun s : N4 => .tuple #[.agg (⟨s, L.r.nd⟩ : NV).c.toArray, .bool true]) (fun _ => True) (fun s => nrows ⟨s, L.r.nd⟩ ++ x.H) := by
  have h0 := hnode h.ok 0
  rw [h.m, h.o.node, if_pos h2] at h0
  exact h0
theorem lclaim {x : HQ} {L : Lf} {B : Nat} (h : LH x L B) (hB : B + 1 ≤ 60000) {t : Int} (ht : tkB t = true) (hl : t ∉ L.ld) (hs : L.r.st ≠ 0) (hc : L.cl = 0 ∨ L.ct = t) (h1 : L.cl ≤ 1) : Con Tryz.prog 207 [ptV x.bc, .int .i64 t] (fun _ => True) x.H (fun _ : HQ => .bool true) (fun y => y.bh = x.bh ∧ y.bc = x.bc ∧ LH y (L.claim t) (B + 1)) (fun y => y.H) := by
  have h0 := hclaim h.ok hB t
  rw [show (x.q.M.claim t).1 = true by rw [h.m, h.o.claim ht hl hs hc]] at h0
  exact Con.map (fun q => x.setq q) h0 (fun q hq => ⟨rfl, rfl, h.claim ht hl hs hc h1 hq.1 hq.2⟩)
theorem lset {x : HQ} {L : Lf} {B : Nat} (h : LH x L B) {t : Int} (ht : tkB t = true) (h2 : L.r.st = 2) (hw : L.la.wr = t) {nv : NV} {es : List En} (hd : nv.d = lfd es) (hr : Rise es) (hf : fitL (lfd es) = true) (hn : nv.d.Sm 1000) : Con Tryz.prog 204 [ptV x.bh, .int .i64 t, .int .i64 0, .agg nv.c.toArray] (fun _ => True) ((nrows nv ++ x.H)) (fun y : HQ × Bool => .bool y.2) (fun y => y.1.bh = x.bh ∧ LH y.1 (L.setN es) B) (fun y => nrows nv ++ y.1.H) := by
  intro w hE hH
  obtain ⟨l, h0, hlm⟩ := h.l0
  refine enter (n := 35) (vs := [ptV x.bh, .int .i64 t, .int .i64 0, .agg nv.c.toArray]) (St w (dom ((nrows nv ++ x.H))) ((nrows nv ++ x.H))) func204 I I I (St.init hH) ?_
  refine Cs I (l_e I (e_box I I I I ?_))
  intro bn
  refine cells_eq (show _ = nv.c from I) (Ak I (Cs I (Lm I (Lm I (Lm I (pull10 (pull10 (pull10 (pull10 (pull10 (pull10 (pull10 (pull10 (pull10 (pull10 (pull10 (l_e I (e_callH [_, _, _, _, _] (llatch h ht h2 h0) I I I call134 I Tt ?_))))))))))))))))))
  intro _ _
  refine Pre.world (St _ _ (_ :: _ :: _ :: _ :: _ :: HQ.H (x))) Ih ?_
  refine Ak I (c_seq (D4 [(0,O),(1,O),(2,O),(3,O),(5,O),(4,V),(6,O),(7,O),(8,O),(9,O),(10,V),(11,O),(12,O),(13,O),(14,O),(15,O),(16,O),(17,O),(18,O),(19,V),(20,O),(21,W)] [21] [(_,O),(_,O),(_,O),(_,O),(_,O),(_,V),(_,O),(_,O),(_,O),(_,O),(_,V),(_,O),(_,O),(_,O),(_,O),(_,O),(_,O),(_,O),(_,O),(_,V),(_,O),(_,W)] (fun w2 => (cellsE (HQ.bh (x)) 91 (HQ.cells (x))).at w2 ∧ (cellsE bn 135 (nv.c)).at w2) I I I I St.drawn (H2 5 0 I) (Dm I (Dq I (q_nep I underlying203 I I) (Dm I (Sb 16 true I (by first | (simp; done) | (simp only [decide_eq_true_eq]; rw [hlm]; exact hw)) (Dm I (Dm I (d_e I (e_callH [_, _, _, _, _] (lwriter h h0) I I I call247 I Tt ?_))))))))))
  intro _ _
  refine Pre.world (St _ _ (_ :: _ :: _ :: _ :: _ :: HQ.H (x))) Ih ?_
  refine d_held (H2 5 0 I) (Dq I (q_eql I I I) (Dq I (q_pick_t I I I) (Dm I (Sb 22 true I (by first | (simp; done) | (simp only [decide_eq_true_eq]; rw [hlm]; exact hw)) (Dq I (q_loadCAgg (nv.c) I G135 Z135 I (fun _ h => h.2) (I) (I)) (d_e I (e_call_00 (nfits_leaf nv (by rw [hd]; rfl) (hn.mono (by decide))) I I I call216 I (fun _ h => ⟨h.rd 1 rfl, h.rd 2 rfl, h.rd 3 rfl, h.rd 4 rfl⟩) ?_)))))))
  intro _ _
  refine Sv' 24 (.bool true) I (by rw [hd, hf]) (d_held (H2 5 0 I) (Dq I (q_pick_t I I I) (Dm I (Dm I (Dc I (Dfa U91 I Z86 I (Dq I (q_loadC I G86 I (fun _ h => h.1) I) (Dm I (Dq I (q_loadCAgg (nv.c) I G135 Z135 I (fun _ h => h.2) (I) (I)) (pull10 (pull10 (pull10 (pull10 (pull10 (pull10 (pull10 (pull10 (pull10 (pull10 (pull10 (d_e I (e_callH [_] (hset h.ok nv hn 0) I I I call261 I Tt ?_))))))))))))))))))))))
  rintro q ⟨hm, hk⟩
  refine Pre.world (St _ _ (_ :: _ :: _ :: _ :: _ :: HQ.H (x.setq q))) Ih ?_
  refine d_held (H2 5 0 I) (Dq I (q_pick_t I I I) (d_t I (e_q I I (q_assign I I) (d_nil (Kt (c_ret (drop0 ?_)))))))
  have hset := h.setN h2 hr hf (by rw [hm, hd]) hk
  refine r_one I I ?_
  exact fun _ hh => ⟨(x.setq q, (x.q.M.setN 0 nv.d).1), by simp, ⟨rfl, hset⟩, hh⟩
theorem lalloc {x : HQ} {L : Lf} {B : Nat} (h : LH x L B) {t : Int} (ht : tkB t = true) (hcl : L.cl = 2) (hct : L.ct = t) (hls : L.s.left < 2) : Con Tryz.prog 208 [ptV x.bh, .int .i64 t, .int .i64 2] (fun _ => True) (x.H) (fun y : HQ => .tuple #[nil0, .bool false]) (fun y => y.bh = x.bh ∧ LH y L.give B) (fun y => y.H) := by
  intro w hE hH
  refine enter (n := 66) (vs := [ptV x.bh, .int .i64 t, .int .i64 2]) (St w (dom (x.H)) (x.H)) func208 I I I (St.init hH) ?_
  refine Cs I (Las I (Ak I (c_seq (Cs I (Lm I (l_e I (e_call_00 (htask t) I I I call195 I Tt ?_)))))))
  intro _ _
  refine Lq I (q_not I I) (Nk (Sb 13 false I (by rw [ht]; rfl) (c_false I (c_skip (Ks (Cs I (Lm I (Lq I (q_lss I I I) (Lm I (Sb 16 false I (by first | decide | (simp only [decide_eq_true_eq, decide_eq_false_iff_not]; omega)) (Lm I (Lq I (q_gtr I I I) (Lq I (q_pick_f I I I) (Lm I (Sb 20 false I (by first | decide | (simp only [decide_eq_true_eq, decide_eq_false_iff_not]; omega)) (Lm I (Lc I (Lfa U91 I Z86 I (Lo G86 0 I (Lm I (l_e I (e_callH [] (hclaims h.ok t) I I I call262 I Tt ?_))))))))))))))))))))))
  intro _ _
  refine Pre.world (St _ _ (HQ.H (x))) Ih ?_
  refine Sv' 26 (.int .i64 2) I (by rw [h.m, ← hct, claims_eq h.o, hcl]; rfl) (Lm I (Lq I (q_lss I I I) (Lq I (q_pick_f I I I) (Lm I (Sb 30 false I (by first | decide | (simp only [decide_eq_true_eq, decide_eq_false_iff_not]; omega)) (Lm I (Lc I (Lfa U91 I sizeOf87 I (Lo isAgg87 0 I (l_e I (e_callH [] (hsleft h) I I I call35 I Tt ?_)))))))))))
  intro _ _
  refine Pre.world (St _ _ (HQ.H (x))) Ih ?_
  refine Lm I (Lq I (q_lss I I I) (Lq I (q_pick_f I I I) (Nk (Sb 38 true I (by first | decide | (simp only [decide_eq_true_eq, decide_eq_false_iff_not]; omega)) (c_true I (Cs I (Lm I (Lc I (Lfa U91 I Z86 I (Lo G86 0 I (Lm I (l_e I (e_callH [] (hgive h.ok t) I I I call263 I Tt ?_)))))))))))))
  rintro q ⟨hm, hk⟩
  refine Pre.world (St _ _ (HQ.H (x.setq q))) Ih ?_
  refine Nk (Cs I (Las I (Ak I (c_ret (k_then_ret (r_many (rs := [.tmp 6, .tmp 7]) I I ?_))))))
  exact fun _ hh => ⟨x.setq q, rfl, ⟨rfl, h.give (.inr hct) hm hk⟩, hh⟩
theorem llook {x : HQ} {L : Lf} {B : Nat} (h : LH x L B) : Con Tryz.prog 71 [ptV x.bh, .int .i64 0] (fun _ => True) (x.H) (fun s : N4 => .tuple #[.agg (⟨s, if L.r.st = 2 then L.r.nd else ndL⟩ : NV).c.toArray, .bool true]) (fun _ => True) (fun s => nrows (⟨s, if L.r.st = 2 then L.r.nd else ndL⟩ : NV) ++ x.H) := by
  intro w hE hH
  refine enter (n := 24) (vs := [ptV x.bh, .int .i64 0]) (St w (dom (x.H)) (x.H)) func71 I I I (St.init hH) ?_
  refine Cs I (l_e I (e_alloc I I I zeroValue135 ?_))
  intro br
  refine cells_eq (show _ = nv0.c from I) (Ak I (c_seq (Cs I (Lm I (Lc I (Lfa U91 I Z86 I (Lo G86 1 I (Lm I ?_))))))))
  by_cases h2 : L.r.st = 2
  · refine l_e I (e_callH [_] (lnode h h2) I I I call116 I Tt ?_)
    intro s _
    refine Pre.world (St _ _ (_ :: _ :: _ :: _ :: _ :: HQ.H (x))) Ih ?_
    refine Lm I (Lq I (q_extract I I I) (Lq I (q_extract I I I) (l_e I (e_alloc I I I zeroValue135 ?_))))
    intro bn
    refine cells_eq (show _ = nv0.c from I) (l_e I (e_storeAgg I I Z135 I I I (NV.one _) (by show 0 + 5 ≤ 5; decide) (cells_eq (show Sep.splice _ 0 ((⟨s, L.r.nd⟩ : NV)).c = ((⟨s, L.r.nd⟩ : NV)).c from Sep.splice_all I) (Ak I (Cs I (Lm I (Nk (c_true I (Cs I (Lq I (q_loadCAgg ((⟨s, L.r.nd⟩ : NV).c) I G135 Z135 I (Hat 0 I) (I) (I)) (pull1 (l_e I (e_storeAgg I I Z135 I I I (NV.one _) (by show 0 + 5 ≤ 5; decide) (cells_eq (show Sep.splice _ 0 ((⟨s, L.r.nd⟩ : NV)).c = ((⟨s, L.r.nd⟩ : NV)).c from Sep.splice_all I) (Ak I (c_ret (k_then_ret (pull11 (pull11 (pull11 (pull11 (pull11 (pull11 ?_)))))))))))))))))))))))
    refine pull11 (pull11 (pull11 (pull11 (pull10 (pull11 (drop0 (r_res2 I (res_cellA I G135 Z135 (Hat 0 I) (I)) (show Sep.look _ _ = some _ from I) ?_)))))))
    exact fun _ hh => ⟨s, by rw [if_pos h2], trivial, by rw [if_pos h2]; exact hh.drop⟩
  · refine l_e I (e_callH [_] (hnode h.ok 0) I I I call116 I Tt ?_)
    intro s _
    refine Pre.world (St _ _ (_ :: _ :: _ :: _ :: _ :: HQ.H (x))) Ih ?_
    have hn0 : x.q.M.node 0 = (nd0, false) := by rw [h.m, h.o.node, if_neg h2]
    refine Sv' 14 (.tuple #[.agg (⟨s, nd0⟩ : NV).c.toArray, .bool false]) I (by rw [hn0]) (Lm I (Lq I (q_extract I I I) (Lq I (q_extract I I I) (l_e I (e_alloc I I I zeroValue135 ?_)))))
    intro bn
    refine cells_eq (show _ = nv0.c from I) (l_e I (e_storeAgg I I Z135 I I I (NV.one _) (by show 0 + 5 ≤ 5; decide) (cells_eq (show Sep.splice _ 0 ((⟨s, nd0⟩ : NV)).c = ((⟨s, nd0⟩ : NV)).c from Sep.splice_all I) (Ak I (Cs I (Lm I (Nk (c_false I (c_skip (Kt (Cs I (Lm I (Lm I (pull11 (pull11 (pull11 (pull11 (pull11 (pull11 (pull11 (pull11 (pull11 (pull11 ?_)))))))))))))))))))))))
    refine pull11 (pull11 (l_e I (e_callH [_, _, _, _, _, _] (hread h) I I I call117 I Tt ?_)))
    intro _ _
    refine Pre.world (St _ _ (_ :: _ :: _ :: _ :: _ :: _ :: HQ.H (x))) Ih ?_
    refine Lq I (q_extract I I I) (Lq I (q_extract I I I) (pull1 (l_e I (e_storeAgg I I Z135 I I I (NV.one _) (by show 0 + 5 ≤ 5; decide) (cells_eq (show Sep.splice _ 0 (nvL).c = (nvL).c from Sep.splice_all I) (Ak I (c_ret (pull11 (pull11 (pull11 (pull11 (pull11 (pull11 (pull11 (pull11 (pull11 (pull11 (pull10 (pull11 (drop0 (pull1 (drop0 (pull1 ?_)))))))))))))))))))))))
    refine drop0 (pull1 (drop0 (pull1 (drop0 (row0 154 Ms.enc none (row0 77 (Kv.enc 8) none (row0 3 (encI .i64) none (row0 79 En.enc none (pull4 (r_res2 I (res_cellA I G135 Z135 (Hat 0 I) (I)) (show Sep.look _ _ = some _ from I) ?_))))))))))
    exact fun _ hh => ⟨n40, by rw [if_neg h2]; rfl, trivial, by rw [if_neg h2]; exact hh.drop⟩
theorem new_perm (p : List Ent) (lts : List LC) (l : LC) (T : List Ent) : (p ++ (l.H ++ (LTs lts ++ T))).Perm (p ++ (LTs (lts ++ [l]) ++ T)) := by
  have e : LTs (lts ++ [l]) = LTs lts ++ l.H := by unfold LTs; rw [List.flatMap_append]; simp
  rw [e, List.append_assoc]
  exact (List.perm_append_comm_assoc l.H (LTs lts) T).append_left p
def bkL : Bk := ⟨blkL, blkL_len⟩
def st0 (n : Nat) : Sto := ⟨List.replicate n Bk.zero, List.replicate n false⟩
def st1 (n : Nat) : Sto := ((st0 n).alloc 0).put 0 bkL
def lf0 (nb nf : Nat) : Lf := ⟨nf, st1 nb, free0, [], 0, 0, Lt.newL, none⟩
theorem st0_fr {n : Nat} (h : 1 ≤ n) : (st0 n).fr = some 0 := by
  refine fst1_some (y := false) ?_ I (fun z hz => by simp at hz)
  show (List.replicate n false)[0]? = _
  rw [List.getElem?_replicate, if_pos (by omega)]
theorem st0_ok {n : Nat} (h : 1 ≤ n) (h2 : n ≤ 256) : (st0 n).Ok := ⟨by simp [st0], by simpa [st0] using h, by simpa [st0] using h2⟩
theorem st0a_ok {n : Nat} (h : 1 ≤ n) (h2 : n ≤ 256) : ((st0 n).alloc 0).Ok := ⟨by simp [st0, Sto.alloc], by simpa [st0, Sto.alloc] using h, by simpa [st0, Sto.alloc] using h2⟩
theorem st1_ok {n : Nat} (h : 1 ≤ n) (h2 : n ≤ 256) : (st1 n).Ok := ⟨by simp [st1, st0, Sto.alloc, Sto.put], by simpa [st1, st0, Sto.alloc, Sto.put] using h, by simpa [st1, st0, Sto.alloc, Sto.put] using h2⟩
theorem st0a_us {n : Nat} (h : 1 ≤ n) : ((st0 n).alloc 0).us[0]? = some true := by
  show ((List.replicate n false).set 0 true)[0]? = _
  rw [List.getElem?_set_self (by rw [List.length_replicate]; omega)]
theorem st0a_bl {n : Nat} (h : 1 ≤ n) : ((st0 n).alloc 0).bl[0]? = some Bk.zero := by
  show ((List.replicate n Bk.zero).set 0 Bk.zero)[0]? = _
  rw [List.getElem?_set_self (by rw [List.length_replicate]; omega)]
theorem lf0_ok {nb nf : Nat} (h1 : 1 ≤ nb) (h5 : 5 ≤ nf) : (lf0 nb nf).Ok := ⟨h5, Nat.zero_le _, st0a_us h1, ⟨bkL, by
  show ((((List.replicate nb Bk.zero).set 0 Bk.zero).set 0 bkL))[0]? = _
  rw [List.getElem?_set_self (by rw [List.length_set, List.length_replicate]; omega)], rfl⟩, .inl rfl, fun e => by cases e⟩
theorem lf0_lh {nb nf bh bc bs bR : Nat} {vL vB vU : Value} {lts : List LC} {q : Q} (h1 : 1 ≤ nb) (h2 : nb ≤ 256) (h5 : 5 ≤ nf) (h6 : nf ≤ 64) (hl : lts.length = nf) (hn : ∀ l ∈ lts, l.m = Lt.newL) (hq : q.Ok 0) (hm : q.M = mo0 nf) : LH ⟨bh, bc, bs, bR, vL, vB, vU, [], st1 nb, lts, q⟩ (lf0 nb nf) 0 := by
  refine ⟨⟨hq, st1_ok h1 h2, fun l hm => by rw [hn l hm]; exact Lt.new_ok, ?_, List.nodup_nil⟩, ?_, rfl, ?_, rfl, lf0_ok h1 h5⟩
  · show lts.length = q.M.fr.length
    rw [hm, hl]; exact (List.length_replicate ..).symm
  · show q.M = _
    rw [hm]
    show (⟨List.replicate nf free0, [], [], 0⟩ : Mo) = ⟨free0 :: (List.replicate 0 _ ++ List.replicate (nf - 1 - 0) free0), [], [], 0⟩
    obtain ⟨m, rfl⟩ : ∃ m, nf = m + 1 := ⟨nf - 1, by omega⟩
    rfl
  · show lts.map LC.m = Lt.newL :: List.replicate (nf - 1) Lt.newL
    obtain ⟨m, rfl⟩ : ∃ m, nf = m + 1 := ⟨nf - 1, by omega⟩
    rw [show Lt.newL :: List.replicate (m + 1 - 1) Lt.newL = List.replicate (m + 1) Lt.newL from rfl, ← hl]
    exact List.eq_replicate_iff.2 ⟨by simp, fun b hb => by obtain ⟨l, h, rfl⟩ := List.mem_map.1 hb; exact hn l h⟩
theorem hswrite {x : HQ} (hs : x.s.Ok) {bk nb : Bk} {vb : Value} (h0 : x.s.us[0]? = some true) (hb : x.s.bl[0]? = some bk) : Con Tryz.prog 146 [ptV x.bs, .int .i64 0, vb] (fun _ => True) (rowE vb 5 (encI .u8) nb.l :: x.H) (fun _ : Unit => .int .i64 0) (fun _ => True) (fun _ => rowE vb 5 (encI .u8) nb.l :: (x.setS (x.s.put 0 nb)).H) :=
  HQ.liftS (E' := fun _ => True) (A := [rowE vb 5 (encI .u8) nb.l]) (A' := fun _ : Unit => [rowE vb 5 (encI .u8) nb.l]) (sn := fun _ => x.s.put 0 nb) (swrite_yes hs x.bs x.vB x.vU (vb := vb) (k := 0) nb h0 hb) (fun _ _ _ => trivial)
theorem hcnew (n : Nat) (h1n : 1 ≤ n) (hn : n ≤ 64) : Con Tryz.prog 101 [.int .i64 (n : Int)] (fun _ => True) [] (fun r : Nat × Q => .tuple #[ptV r.1, .int .i64 0]) (fun r => r.2.M = mo0 n ∧ r.2.Ok 0) (fun r => r.2.H r.1) :=
  Con.pack [] (new_spec n h1n hn) (List.Perm.refl _) (fun _ _ _ => trivial) (fun r => (r.1, (⟨r.2, mo0 n, []⟩ : Q))) (fun r hp => ⟨rfl, ⟨rfl, ⟨hp.1, mo0_ok h1n hn, hp.2 _⟩⟩, [], perm_nil _⟩)
theorem hwrite {x : HQ} (hs : x.s.Ok) {bk : Bk} (h0 : x.s.us[0]? = some true) (hb : x.s.bl[0]? = some bk) : Con Tryz.prog 90 [ptV x.bh, .int .i64 0, .agg nvL.c.toArray] (fun _ => True) (x.H) (fun _ : Unit => .tuple #[]) (fun _ => True) (fun _ => (x.setS (x.s.put 0 bkL)).H) := by
  intro w hE hH
  refine enter (n := 22) (vs := [ptV x.bh, .int .i64 0, .agg nvL.c.toArray]) (St w (dom (x.H)) (x.H)) func90 I I I (St.init hH) ?_
  refine Cs I (l_e I (e_box I I I I ?_))
  intro bn
  refine cells_eq (show _ = nvL.c from I) (Nk (Cs I (Lq I (q_loadCAgg (nvL.c) I G135 Z135 I (Hat 0 I) (I) (I)) (l_e I (e_call_01 (cencode_empty) I I I call145 I Tt ?_)))))
  intro vy _
  refine Lm I (Lq I (q_extract I I I) (Lq I (q_extract I I I) (Las I (Ak I (Cs I (Lm I (Lq I (q_eql I I I) (Nk (Sb 14 true I (I) (c_true I (Cr I (Lm I (Lc I (Lfa U91 I sizeOf87 I (Lo isAgg87 2 I (Lm I (Lm I (pull7 (pull7 (pull7 (pull7 (pull7 (pull7 ?_)))))))))))))))))))))))
  refine pull6 (pull7 (l_e I (e_callH [_] (hswrite (nb := bkL) hs h0 hb) I I I call146 I Tt ?_)))
  intro _ _
  refine Pre.world (St _ _ (_ :: _ :: HQ.H (x.setS (x.s.put 0 bkL)))) Ih ?_
  refine l_nil (r_normal (pull7 (pull7 (pull7 (pull7 (pull7 (pull7 (pull7 (pull7 (drop0 (drop0 (r_none I ?_))))))))))))
  exact fun _ h => ⟨(), rfl, trivial, h⟩
theorem hsalloc {x : HQ} (hs : x.s.Ok) (hf : x.s.fr = some 0) : Con Tryz.prog 103 [ptV x.bs] (fun _ => True) x.H (fun _ : Unit => .tuple #[.int .i64 0, .int .i64 0]) (fun _ => True) (fun _ => (x.setS (x.s.alloc 0)).H) := by
  have h := salloc_spec hs x.bs x.vB x.vU
  rw [hf] at h
  exact HQ.liftS (E' := fun _ => True) (A := []) (A' := fun _ : Unit => []) (sn := fun _ => x.s.alloc 0) h (fun _ _ _ => trivial)
theorem hnew {nb nf : Nat} (h1 : 1 ≤ nb) (h2 : nb ≤ 256) (h5 : 5 ≤ nf) (h6 : nf ≤ 64) : Con Tryz.prog 50 [.int .i64 (nb : Int), .int .i64 (nf : Int)] (fun _ => True) [] (fun y : HQ => .tuple #[ptV y.bh, .int .i64 0]) (fun y => LH y (lf0 nb nf) 0) (fun y => y.H) := by
  intro w hE hH
  refine enter (n := 58) (vs := [.int .i64 (nb : Int), .int .i64 (nf : Int)]) (St w [] []) func50 I I I (St.init hH) ?_
  refine Cs I (Las I (Ak I (Cs I (Lm I (l_e I (e_callH [] (HA := []) (snew_yes h1 h2) I I I call100 I Tt ?_))))))
  rintro ⟨bs, vB, vU⟩ _
  refine Pre.world (St _ _ (SE bs vB vU (st0 nb))) Ih ?_
  refine Lm I (Lq I (q_extract I I I) (Lq I (q_extract I I I) (Las I (Ak I (Cs I (Lm I (l_e I (e_callH [_, _, _] (HA := []) (hcnew nf (by omega) h6) I I I call101 I Tt ?_))))))))
  rintro ⟨bc, q⟩ ⟨hm, hk⟩
  dsimp only at hm hk
  refine Pre.world (St _ _ (_ :: _ :: _ :: Q.H bc q)) Ih ?_
  refine Lm I (Lq I (q_extract I I I) (Lq I (q_extract I I I) (Las I (Ak I (c_seq (Cs I (Lm I (Lq I (q_neq I I I) (Lm I (Sb 25 false I (I) (Lm I (Lq I (q_neq I I I) (Lq I (q_pick_f I I I) (Nk (Sb 28 false I (I) (c_false I (c_skip (Kt (Cs I (Lm I (Lm I (l_e I (e_makeMapT kI kI I I I ?_)))))))))))))))))))))))
  intro bR
  refine Lq I (q_build ([ptV bc, ptV bs, nil0, .map (some bR)]) I I (fun w => by kernel_rfl)) (l_e I (e_box I I I I ?_))
  intro bh
  refine cells_eq (show _ = [ptV bc, ptV bs, nil0, .map (some bR)] from I) (Ak I (c_seq (Cs I (Lm I (Lm I (Nk (c_block (row0 203 encPt none (pull5 (pull5 (pull5 (pull5 (pull4 (pull5 ?_))))))))))))))
  refine c_loop3 (fun (k : Nat) (v : Value) (lts : List LC) => [(6, ptV bs), (8, ptV bc), (10, ptV bh), (34, .int .i64 (nf : Int)), (35, .int .i64 (k : Int))]) (fun (k : Nat) (v : Value) (lts : List LC) => St w [] (cellsE bh 91 [ptV bc, ptV bs, v, .map (some bR)] :: rowE v 203 encPt (lts.map LC.b) :: mapT bR kI kI [] :: cellsE bs 161 [vB, vU] :: rowE vB 279 Bk.enc (st0 nb).bl :: rowE vU 4 encB (st0 nb).us :: (LTs lts ++ Q.H bc q))) (fun (k : Nat) (v : Value) (lts : List LC) => k ≤ nf ∧ lts.length = k ∧ ∀ l ∈ lts, l.m = Lt.newL) (fun (k : Nat) (v : Value) (lts : List LC) => nf - k) (0) (nil0) ([]) ⟨Nat.zero_le _, rfl, by simp⟩ (Sn I (Sn I (Sn I (Sn I (Sn I (Sub.nil)))))) Ih ?_
  intro k v lts hp
  refine c_seq ?_
  obtain ⟨hk1, hk2, hk3⟩ := hp
  have hkl : (lts.map LC.b).length = lts.length := List.length_map ..
  refine Cr I (Lq I (q_lss I I I) (Ns ?_))
  refine Pre.caseB 36 I (fun hlt => ?_) (fun hlt => ?_)
  · try simp only [B4] at hlt
    refine c_true I (c_skip (Ks (c_block (D4 [(0,O),(1,O),(2,O),(3,O),(4,O),(5,V),(6,V),(7,V),(8,W),(9,W),(10,W)] [8, 9, 10] [(_,O),(_,O),(_,O),(_,O),(_,O),(_,V),(_,V),(_,V),(_,W),(_,W),(_,W)] (fun w2 => (cellsE bh 91 [ptV bc, ptV bs, v, .map (some bR)]).at w2) I I I I St.drawn (Hat 0 I) (Dm I (Dm I (Dc I (Dfa U91 I Z88 I (Dq I (q_loadC I isAgg88 I Ih I) (d_e I (e_call_03 Lt.new_spec I I I call102 I Tt ?_)))))))))))
    intro bl _
    refine d_held (Hat 3 I) (d_e I (e_buildSliceV (sz := 1) [.tmp 42] I I I I I U88 sizeOf203 I zeroValue203 I ?_))
    intro b2
    refine d_held (Hat 4 I) (pull5 (d_e I (e_append I I I U88 U88 info203 I I I I I (fun _ h => lit_rd (h.at 1 I) encPt [bl] I I) (by simp only [byt203, List.length_append, List.length_cons, List.length_nil]; omega) (by simp only [List.length_append, List.length_cons, List.length_nil]; omega) ?_)))
    intro v2
    refine row_eq (show _ = (lts ++ [(⟨bl, nil0, nil0, Lt.newL⟩ : LC)]).map LC.b by rw [List.map_append]; rfl) (pull1 (drop0 (d_held (Hat 4 I) (d_t I (e_q I I (q_nilCheck I I) (d_t I (e_q I I (q_fieldAddr I U91 I Z88 I I) (Pre.fact (fun _ h => row_sl (h.at 0 I)) ?_))))))))
    rintro ⟨av, cv, hv2⟩
    refine pull4 (d_t I (e_store I I Z88 I I (by rw [hv2]; rfl) (Nat.le_of_ble_eq_true I) (cells_eq (show _ = [ptV bc, ptV bs, v2, .map (some bR)] from I) (d_nil (k_block (Kt (Cr I (Lq I (q_inc I I I (by omega)) (Lm I (l_nil (pull4 (pull4 (pull4 (pull8 (pull8 (pull8 (pull8 (pull8 (pull8 ?_)))))))))))))))))))
    exact k_round ((k + 1, v2, lts ++ [⟨bl, nil0, nil0, Lt.newL⟩])) (by dsimp only; omega) ⟨by dsimp only; omega, by simp [hk2], fun l hl => (List.mem_append.1 hl).elim (hk3 l) (fun e => by simp at e; rw [e])⟩ (Sub.cons I (Sub.cons I (Sub.cons I (Sub.cons I (Sub.cons I (Sub.nil)))))) (fun _ h => h.perm (new_perm [_, _, _, _, _, _] lts ⟨bl, nil0, nil0, Lt.newL⟩ _))
  · try simp only [B4] at hlt
    have hnf : lts.length = nf := by omega
    refine Pre.world (St _ _ (HQ.H (⟨bh, bc, bs, bR, v, vB, vU, [], st0 nb, lts, q⟩ : HQ))) Ih ?_
    refine c_false I (c_exit (k_then_exit (k_then_exit (k_block_exit (Kt (Cs I (Lm I (l_e I (e_callH [] (hsalloc (x := (⟨bh, bc, bs, bR, v, vB, vU, [], st0 nb, lts, q⟩ : HQ)) (st0_ok h1 h2) (st0_fr h1)) I I I call103 I Tt ?_)))))))))
    intro _ _
    refine Pre.world (St _ _ (HQ.H (((⟨bh, bc, bs, bR, v, vB, vU, [], st0 nb, lts, q⟩ : HQ).setS ((st0 nb).alloc 0))))) Ih ?_
    refine Lm I (Lq I (q_extract I I I) (Lq I (q_extract I I I) (Las I (Ak I (Cs I (Lm I (Lm I (Lq I (q_build (nvL.c) I I (fun w => by kernel_rfl)) (l_e I (e_callH [] (hwrite (x := ((⟨bh, bc, bs, bR, v, vB, vU, [], st0 nb, lts, q⟩ : HQ).setS ((st0 nb).alloc 0))) (st0a_ok h1 h2) (st0a_us h1) (st0a_bl h1)) I I I call90 I Tt ?_))))))))))
    intro _ _
    refine Pre.world (St _ _ (HQ.H ((((⟨bh, bc, bs, bR, v, vB, vU, [], st0 nb, lts, q⟩ : HQ).setS ((st0 nb).alloc 0)).setS (st1 nb))))) Ih ?_
    refine Nk (Cs I (Lm I (Las I (Ak I (c_ret (r_many (rs := [.tmp 4, .tmp 5]) I I ?_))))))
    exact fun _ h => ⟨⟨bh, bc, bs, bR, v, vB, vU, [], st1 nb, lts, q⟩, rfl, lf0_lh h1 h2 h5 h6 hnf hk3 hk hm, h⟩
structure Wk where
  t : Int
  k : Kv 8
  at' : Int
  pin : Bool
  v : Kv 16
  f : Bool
namespace Wk
def five (w : Wk) : List Value := [.int .i64 w.at', .int .i64 0, .int .i64 0, .bool w.pin, .bool false]
def c (w : Wk) : List Value := (.int .i64 w.t :: w.k.c) ++ ((w.five ++ (ms0.c ++ [Value.bool false])) ++ (w.v.c ++ [.bool w.f]))
theorem c_len (w : Wk) : w.c.length = 63 := by simp [c, five, Kv.c_len, Ms.c_len]
theorem hd_len (w : Wk) : (Value.int .i64 w.t :: w.k.c).length = 10 := by simp [Kv.c_len]
theorem md_len (w : Wk) : (w.five ++ (ms0.c ++ [Value.bool false])).length = 35 := by simp [five, Ms.c_len]
theorem mid (w : Wk) {j : Nat} {v : Value} (h : (w.five ++ (ms0.c ++ [Value.bool false]))[j]? = some v) : w.c[10 + j]? = some v := by
  have hj := (List.getElem?_eq_some_iff.1 h).1
  unfold c
  rw [List.getElem?_append_right (by rw [hd_len]; omega), hd_len, List.getElem?_append_left (by omega), Nat.add_sub_cancel_left]
  exact h
theorem k_part (w : Wk) : (w.c.drop 1).take 9 = w.k.c := by
  unfold c
  rw [List.cons_append, List.drop_succ_cons, List.drop_zero]
  exact List.take_left' (Kv.c_len _)
theorem set_mid {w w' : Wk} {j : Nat} {v : Value} (ht : w'.t = w.t) (hk : w'.k = w.k) (hv : w'.v = w.v) (hf : w'.f = w.f) (hj : j < 5) (h : w.five.set j v = w'.five) : w.c.set (10 + j) v = w'.c := by
  unfold c
  rw [List.set_append_right _ _ (by rw [hd_len]; omega), hd_len, Nat.add_sub_cancel_left, List.set_append_left _ _ (by rw [md_len]; omega), List.set_append_left _ _ (by simp [five]; omega), h, ht, hk, hv, hf]
theorem set_v (w : Wk) (z : Kv 16) : Sep.splice w.c 45 z.c = ({ w with v := z } : Wk).c := by
  unfold c
  rw [← List.append_assoc]
  rw [splice_mid (by rw [List.length_append, hd_len, md_len]) (by rw [Kv.c_len, Kv.c_len]), List.append_assoc]
  rfl
theorem set_f (w : Wk) (b : Bool) : w.c.set 62 (.bool b) = ({ w with f := b } : Wk).c := by
  unfold c
  rw [← List.append_assoc, List.set_append_right _ _ (by rw [List.length_append, hd_len, md_len]; decide), List.length_append, hd_len, md_len, List.set_append_right _ _ (by rw [Kv.c_len]; decide), Kv.c_len, List.append_assoc]
  rfl
theorem v_part (w : Wk) : (w.c.drop 45).take 17 = w.v.c := by
  unfold c
  rw [← List.append_assoc, List.drop_left' (by rw [List.length_append, hd_len, md_len])]
  exact List.take_left' (Kv.c_len _)
theorem f_at (w : Wk) : w.c[62]? = some (.bool w.f) := by
  unfold c
  rw [← List.append_assoc, List.getElem?_append_right (by rw [List.length_append, hd_len, md_len]; decide), List.length_append, hd_len, md_len, List.getElem?_append_right (by rw [Kv.c_len]; decide), Kv.c_len]
  rfl
end Wk
abbrev WKE (b : Nat) (w : Wk) : Ent := cellsE b 226 w.c
theorem pin_cases (L : Lf) (t : Int) : (L.pin t).1 = 1 ∨ (L.pin t).1 = 2 ∨ (L.pin t).1 = 3 := by
  unfold Lf.pin
  split
  · exact .inr (.inr I)
  · split
    · exact .inl I
    · exact .inr (.inl I)
def lfe (L : Lf) : List En := L.r.nd.es
section
variable {P : Program} {n : Nat} {L : Env} {X : World → Prop} {o : Oper}
theorem q_loadCAggE {t T : TypeId} {x : Operand} {b off sz : Nat} (vs : List Value) (ho : o.op = .load t x) (hg : ∀ w, (isAgg t).run P w = .ok true w) (hz : ∀ w, (sizeOf t).run P w = .ok sz w) (hx : ev L x = some (.pointer (some ⟨b, off, none⟩))) (hr : ∀ w, X w → ∃ cs, (cellsE b T cs).at w ∧ (cs.drop off).take sz = vs)
    (hl : vs.length = sz) : QOp P n L X o (.agg vs.toArray) := fun a w kn hX => by
  obtain ⟨cs, h, e⟩ := hr w hX
  exact q_loadCAgg (X := fun w' => w' = w) vs ho hg hz hx (fun w' e => by subst e; exact h) e hl a w kn rfl
end
theorem kid0 {vp : Value} (k : Kv 8) : Con Tryz.prog 178 [vp, .agg k.c.toArray] (fun w => RdV w vp (Kv.enc 8) []) [] (fun _ : Unit => .int .i64 0) (fun _ => True) (fun _ => []) := by
  intro w hE hH
  refine enter (n := 22) (vs := [vp, .agg k.c.toArray]) (St w [] []) func178 I I I (St.init hH) ?_
  refine Cs I (l_e I (e_box I I I I ?_))
  intro bk
  refine cells_eq (show _ = k.c from I) (Ak I (Cs I (Ak I (c_seq (Cs I (Lm I (Lq I (q_lenV I U132 I (fun _ h => hE.keep h (by simp [dom]))) (Lm I (Nk (c_block ?_))))))))))
  refine c_loop1 (fun (i : Nat) => [(5, .int .i64 0), (9, .int .i64 (([] : List (Kv 8)).length : Int)), (10, .int .i64 (i : Int))]) (fun (i : Nat) => St w [] []) (fun (i : Nat) => True) (fun (i : Nat) => 0) (0) trivial (Sn I (Sn I (Sn I (Sub.nil)))) (fun _ h => h.nothing) ?_
  intro i _
  refine Cs I (Lq I (q_lss I I I) (Ns (Sb 11 false I (decide_eq_false (by simp)) (c_false I (c_exit (k_then_exit (k_then_exit (k_block_exit (Kt (Cs I (Lm I (Ak I (c_ret (r_one I I ?_))))))))))))))
  exact fun _ h => ⟨(), rfl, trivial, h⟩
theorem wkpin {x : HQ} {L : Lf} {B : Nat} (h : LH x L B) {t : Int} (ht : tkB t = true) (hmay : L.mayH t = true) (b : Nat) (k : Kv 8) (v0 : Kv 16) (f0 : Bool) (hl : t ∉ L.ld) (hB : B + 1 ≤ 60000) : Con Tryz.prog 77 [ptV b, ptV x.bh] (fun _ => True) (WKE b (⟨t, k, 1, false, v0, f0⟩ : Wk) :: x.H) (fun y : HQ => .bool false) (fun y => y.bh = x.bh ∧ LH y (L.pin t).2 (B + 1)) (fun y => WKE b (⟨t, k, (if (L.pin t).1 = 3 then 2 else 3), true, v0, f0⟩ : Wk) :: y.H) := by
  intro w hE hH
  refine enter (n := 115) (vs := [ptV b, ptV x.bh]) (St w (dom (WKE b (⟨t, k, 1, false, v0, f0⟩ : Wk) :: x.H)) (WKE b (⟨t, k, 1, false, v0, f0⟩ : Wk) :: x.H)) func77 I I I (St.init hH) ?_
  refine Cs I (Ak I (c_scope 0 I (c_seq (Cs I (Lm I (Lc I (Lfa U226 I Z3 I (Lq I (q_loadC I G3 I (Hat 0 I) (Wk.mid _ (j := 0) I)) (Lq I (q_eql I I I) (Lm I (Sb 10 false I (I) (Lm I (Lm I (Lc I (Lfa U226 I Z3 I (Lo G3 0 I (l_e I (e_callH [_] (lmay h t) I I I call82 I Tt ?_))))))))))))))))))
  intro _ _
  refine Pre.world (St _ _ (_ :: HQ.H (x))) Ih ?_
  refine Sv' 16 (.bool true) I (by rw [hmay]) (Lq I (q_not I I) (Lq I (q_pick_f I I I) (Nk (c_false I (c_skip (Ks (Cs I (Lm I (Lc I (Lfa U226 I Z3 I (Lq I (q_loadC I G3 I (Hat 0 I) (Wk.mid _ (j := 0) I)) (Nk (c_block (Cs I (Lq I (q_eql I I I) (Ak I (Sb 23 true I (I) (c_true I (c_seq (c_seq (c_draw [(0,O),(1,O),(2,O),(3,O),(4,O),(5,O),(6,O),(7,O),(8,O),(9,W)] [9] [(_,O),(_,O),(_,O),(_,O),(_,O),(_,O),(_,O),(_,O),(_,O),(_,W)] _ (blind_then (blind_then (blind_block (blind_then (blind_jump blind_body))))) I (by kernel_rfl) (by kernel_rfl) I I I (by kernel_rfl) St.drawn Ih (Dm I (Dm I ?_)))))))))))))))))))))))
  refine Dc I (Dfa U226 I Z3 I (Dq I (q_loadC I G3 I (Hat 0 I) I) (Dm I (Dc I (Dfa U226 I Z3 I (Dq I (q_loadC I G3 I (Hat 0 I) (Wk.mid _ (j := 1) I)) ?_))))))
  have hp3 := pin_cases L t
  refine d_t I (e_callH [_] (lpin h ht hl hB) I I I call121 I Tt ?_)
  rintro y ⟨hbh, hy⟩
  refine Pre.world (St _ _ (_ :: HQ.H (y))) Ih ?_
  refine d_nil (Kt (c_block (c_seq (Cs I (Lq I (q_eql I I I) (Ak I ?_))))))
  rcases hp3 with e3 | e3 | e3
  · refine Sv' 34 (.int .i64 1) I (by rw [e3]) (Sb 35 true I (by first | rfl | (rw [e3]; rfl)) (c_true I (c_skip (Kt (c_true I (Cr I (Lm I (Lm I (Lc I (Lfa U226 I Z3 I (l_e I (e_store I I Z3 I I I (by rw [Wk.c_len]; decide) (cells_eq (show _ = ((⟨t, k, 3, false, v0, f0⟩ : Wk)).c from Wk.set_mid (j := 0) I I I I (by decide) I) (Lc I (Lfa U226 I Z4 I (l_e I (e_store I I Z4 I I I (by rw [Wk.c_len]; decide) (cells_eq (show _ = ((⟨t, k, 3, true, v0, f0⟩ : Wk)).c from Wk.set_mid (j := 3) I I I I (by decide) I) (l_nil (k_block (Kt (c_goto (k_block_goto ?_)))))))))))))))))))))))
    refine k_then_goto (k_jump_goto (c_seq (c_skip (Kt (Cs I (Lm I (Lc I (Lfa U226 I Z3 I (Lq I (q_loadC I G3 I (Hat 0 I) (Wk.mid _ (j := 0) I)) (Lq I (q_eql I I I) (Ak I (c_ret (k_nogoto_ret (pull6 (pull6 (pull6 (pull6 (pull6 (pull6 (pull6 (r_one I I ?_)))))))))))))))))))))
    exact fun _ hh => ⟨y, rfl, ⟨hbh, hy⟩, by dsimp only; rw [e3]; exact hh⟩
  · refine Sv' 34 (.int .i64 2) I (by rw [e3]) (Sb 35 false I (by first | rfl | (rw [e3]; rfl)) (c_false I (Cr I (Lq I (q_eql I I I) (Ak I (Sb 35 true I (by first | rfl | (rw [e3]; rfl)) (c_true I (Cr I (Lm I (Lm I (Lc I (Lfa U226 I Z3 I (l_e I (e_store I I Z3 I I I (by rw [Wk.c_len]; decide) (cells_eq (show _ = ((⟨t, k, 3, false, v0, f0⟩ : Wk)).c from Wk.set_mid (j := 0) I I I I (by decide) I) (Lc I (Lfa U226 I Z4 I (l_e I (e_store I I Z4 I I I (by rw [Wk.c_len]; decide) (cells_eq (show _ = ((⟨t, k, 3, true, v0, f0⟩ : Wk)).c from Wk.set_mid (j := 3) I I I I (by decide) I) (l_nil (k_block (Kt ?_)))))))))))))))))))))))
    refine c_goto (k_block_goto (k_then_goto (k_jump_goto (c_seq (c_skip (Kt (Cs I (Lm I (Lc I (Lfa U226 I Z3 I (Lq I (q_loadC I G3 I (Hat 0 I) (Wk.mid _ (j := 0) I)) (Lq I (q_eql I I I) (Ak I (c_ret (k_nogoto_ret (pull6 (pull6 (pull6 (pull6 (pull6 (pull6 (pull6 (r_one I I ?_)))))))))))))))))))))))
    exact fun _ hh => ⟨y, rfl, ⟨hbh, hy⟩, by dsimp only; rw [e3]; exact hh⟩
  · refine Sv' 34 (.int .i64 3) I (by rw [e3]) (Sb 35 false I (by first | rfl | (rw [e3]; rfl)) (c_false I (Cr I (Lq I (q_eql I I I) (Ak I (Sb 35 false I (by first | rfl | (rw [e3]; rfl)) (c_false I (Cs I (Lq I (q_eql I I I) (Ak I (Sb 44 true I (by first | rfl | (rw [e3]; rfl)) (c_true I (Cr I (Lm I (Lm I (Lc I (Lfa U226 I Z3 I (l_e I (e_store I I Z3 I I I (by rw [Wk.c_len]; decide) (cells_eq (show _ = ((⟨t, k, 2, false, v0, f0⟩ : Wk)).c from Wk.set_mid (j := 0) I I I I (by decide) I) (Lc I (Lfa U226 I Z4 I (l_e I ?_)))))))))))))))))))))))
    refine e_store I I Z4 I I I (by rw [Wk.c_len]; decide) (cells_eq (show _ = ((⟨t, k, 2, true, v0, f0⟩ : Wk)).c from Wk.set_mid (j := 3) I I I I (by decide) I) (l_nil (k_block (Kt (c_goto (k_block_goto (k_then_goto (k_jump_goto (c_seq (c_skip (Kt (Cs I (Lm I (Lc I (Lfa U226 I Z3 I (Lq I (q_loadC I G3 I (Hat 0 I) (Wk.mid _ (j := 0) I)) (Lq I (q_eql I I I) (Ak I (c_ret (k_nogoto_ret (pull6 (pull6 (pull6 ?_)))))))))))))))))))))))
    refine pull6 (pull6 (pull6 (pull6 (r_one I I ?_))))
    exact fun _ hh => ⟨y, rfl, ⟨hbh, hy⟩, by dsimp only; rw [e3]; exact hh⟩
theorem wkload {x : HQ} {L : Lf} {B : Nat} (h : LH x L B) {t : Int} (ht : tkB t = true) (hmay : L.mayH t = true) (b : Nat) (k : Kv 8) (v0 : Kv 16) (f0 : Bool) (hr : L.rt = some t) (h1 : L.r.st = 1) : Con Tryz.prog 77 [ptV b, ptV x.bh] (fun _ => True) (WKE b (⟨t, k, 2, true, v0, f0⟩ : Wk) :: x.H) (fun y : HQ => .bool false) (fun y => y.bh = x.bh ∧ LH y L.fill B) (fun y => WKE b (⟨t, k, 3, true, v0, f0⟩ : Wk) :: y.H) := by
  intro w hE hH
  refine enter (n := 115) (vs := [ptV b, ptV x.bh]) (St w (dom (WKE b (⟨t, k, 2, true, v0, f0⟩ : Wk) :: x.H)) (WKE b (⟨t, k, 2, true, v0, f0⟩ : Wk) :: x.H)) func77 I I I (St.init hH) ?_
  refine Cs I (Ak I (c_scope 0 I (c_seq (Cs I (Lm I (Lc I (Lfa U226 I Z3 I (Lq I (q_loadC I G3 I (Hat 0 I) (Wk.mid _ (j := 0) I)) (Lq I (q_eql I I I) (Lm I (Sb 10 false I (I) (Lm I (Lm I (Lc I (Lfa U226 I Z3 I (Lo G3 0 I (l_e I (e_callH [_] (lmay h t) I I I call82 I Tt ?_))))))))))))))))))
  intro _ _
  refine Pre.world (St _ _ (_ :: HQ.H (x))) Ih ?_
  refine Sv' 16 (.bool true) I (by rw [hmay]) (Lq I (q_not I I) (Lq I (q_pick_f I I I) (Nk (c_false I (c_skip (Ks (Cs I (Lm I (Lc I (Lfa U226 I Z3 I (Lq I (q_loadC I G3 I (Hat 0 I) (Wk.mid _ (j := 0) I)) (Nk (c_block (Cs I (Lq I (q_eql I I I) (Ak I (Sb 23 false I (I) (c_false I (Cs I (Lq I (q_eql I I I) (Ak I (Sb 52 true I (I) (c_true I ?_)))))))))))))))))))))))
  refine c_seq (c_draw [(0,O),(1,O),(2,O),(3,O),(4,O),(5,O),(6,O),(7,O),(8,O),(9,W)] [9] [(_,O),(_,O),(_,O),(_,O),(_,O),(_,O),(_,O),(_,O),(_,O),(_,W)] _ (blind_then (blind_block (blind_then (blind_jump blind_body)))) I (by kernel_rfl) (by kernel_rfl) I I I (by kernel_rfl) St.drawn Ih (Dm I (Dm I (Dc I (Dfa U226 I Z3 I (Dq I (q_loadC I G3 I (Hat 0 I) I) (Dm I (Dc I (Dfa U226 I Z3 I (Dq I (q_loadC I G3 I (Hat 0 I) (Wk.mid _ (j := 1) I)) (d_t I (e_callH [_] (lload h hr h1) I I I call85 I Tt ?_))))))))))))
  rintro ⟨y, v, bo⟩ ⟨hbh, hy⟩
  refine Pre.world (St _ _ (_ :: HQ.H (y))) Ih ?_
  refine d_nil (Kt (Cs I (Lm I (Lc I (Lfa U226 I Z3 I (l_e I (e_store I I Z3 I I I (by rw [Wk.c_len]; decide) (cells_eq (show _ = ((⟨t, k, 3, true, v0, f0⟩ : Wk)).c from Wk.set_mid (j := 0) I I I I (by decide) I) (Nk (c_goto (k_block_goto (k_then_goto (k_jump_goto (c_seq (c_skip (Kt (Cs I (Lm I (Lc I (Lfa U226 I Z3 I (Lq I (q_loadC I G3 I (Hat 0 I) (Wk.mid _ (j := 0) I)) (Lq I (q_eql I I I) (Ak I ?_)))))))))))))))))))))))
  refine c_ret (k_nogoto_ret (pull6 (pull6 (pull6 (pull6 (pull6 (pull6 (pull6 (r_one I I ?_)))))))))
  exact fun _ hh => ⟨y, rfl, ⟨hbh, hy⟩, hh⟩
theorem wktake {x : HQ} {L : Lf} {B : Nat} (h : LH x L B) {t : Int} (ht : tkB t = true) (hmay : L.mayH t = true) (b : Nat) (k : Kv 8) (v0 : Kv 16) (f0 : Bool) (h2 : L.r.st = 2) (hB : B + 1 ≤ 60000) : Con Tryz.prog 77 [ptV b, ptV x.bh] (fun _ => True) (WKE b (⟨t, k, 3, true, v0, f0⟩ : Wk) :: x.H) (fun y : HQ => .bool false) (fun y => y.bh = x.bh ∧ LH y (L.take t false) (B + 1)) (fun y => WKE b (⟨t, k, 5, true, v0, f0⟩ : Wk) :: y.H) := by
  intro w hE hH
  refine enter (n := 115) (vs := [ptV b, ptV x.bh]) (St w (dom (WKE b (⟨t, k, 3, true, v0, f0⟩ : Wk) :: x.H)) (WKE b (⟨t, k, 3, true, v0, f0⟩ : Wk) :: x.H)) func77 I I I (St.init hH) ?_
  refine Cs I (Ak I (c_scope 0 I (c_seq (Cs I (Lm I (Lc I (Lfa U226 I Z3 I (Lq I (q_loadC I G3 I (Hat 0 I) (Wk.mid _ (j := 0) I)) (Lq I (q_eql I I I) (Lm I (Sb 10 false I (I) (Lm I (Lm I (Lc I (Lfa U226 I Z3 I (Lo G3 0 I (l_e I (e_callH [_] (lmay h t) I I I call82 I Tt ?_))))))))))))))))))
  intro _ _
  refine Pre.world (St _ _ (_ :: HQ.H (x))) Ih ?_
  refine Sv' 16 (.bool true) I (by rw [hmay]) (Lq I (q_not I I) (Lq I (q_pick_f I I I) (Nk (c_false I (c_skip (Ks (Cs I (Lm I (Lc I (Lfa U226 I Z3 I (Lq I (q_loadC I G3 I (Hat 0 I) (Wk.mid _ (j := 0) I)) (Nk (c_block (Cs I (Lq I (q_eql I I I) (Ak I (Sb 23 false I (I) (c_false I (Cs I (Lq I (q_eql I I I) (Ak I (Sb 52 false I (I) (c_false I ?_)))))))))))))))))))))))
  refine Cs I (Lq I (q_eql I I I) (Ak I (Sb 67 true I (I) (c_true I (c_seq (c_draw [(0,O),(1,O),(2,O),(3,O),(4,O),(5,O),(6,O),(7,O),(8,O),(9,W)] [9] [(_,O),(_,O),(_,O),(_,O),(_,O),(_,O),(_,O),(_,O),(_,O),(_,W)] _ (blind_then (blind_block (blind_then (blind_jump blind_body)))) I (by kernel_rfl) (by kernel_rfl) I I I (by kernel_rfl) St.drawn Ih (Dm I (Dm I (Dc I (Dfa U226 I Z3 I (Dq I (q_loadC I G3 I (Hat 0 I) I) (Dm I (Dc I (Dfa U226 I Z3 I (Dq I (q_loadC I G3 I (Hat 0 I) (Wk.mid _ (j := 1) I)) (d_t I (e_callH [_] (ltk h ht h2 hB false) I I I call86 I Tt ?_)))))))))))))))))
  rintro ⟨y, bo⟩ ⟨hbh, hy⟩
  refine Pre.world (St _ _ (_ :: HQ.H (y))) Ih ?_
  refine d_nil (Ks (Cs I (Lm I (Lc I (Lfa U226 I Z3 I (l_e I (e_store I I Z3 I I I (by rw [Wk.c_len]; decide) (cells_eq (show _ = ((⟨t, k, 5, true, v0, f0⟩ : Wk)).c from Wk.set_mid (j := 0) I I I I (by decide) I) (Nk (Cs I (Lm I (Lc I (Lfa U226 I Z4 I (Lq I (q_loadC I G4 I (Hat 0 I) (Wk.mid _ (j := 4) I)) (Nk (Sb 85 false I (I) (c_false I (c_skip (Kt (c_goto (k_block_goto (k_then_goto (k_jump_goto ?_)))))))))))))))))))))))
  refine c_seq (c_skip (Kt (Cs I (Lm I (Lc I (Lfa U226 I Z3 I (Lq I (q_loadC I G3 I (Hat 0 I) (Wk.mid _ (j := 0) I)) (Lq I (q_eql I I I) (Ak I (c_ret (k_nogoto_ret (pull6 (pull6 (pull6 (pull6 (pull6 (pull6 (pull6 (r_one I I ?_)))))))))))))))))))
  exact fun _ hh => ⟨y, rfl, ⟨hbh, hy⟩, hh⟩
theorem wlook {x : HQ} {L : Lf} {B : Nat} (h : LH x L B) {t : Int} (ht : tkB t = true) (b : Nat) (k : Kv 8) (v0 : Kv 16) (f0 : Bool) (h2 : L.r.st = 2) (hhs : hasB L.la t = true) : Con Tryz.prog 123 [ptV b, ptV x.bh] (fun _ => True) (WKE b (⟨t, k, 5, true, v0, f0⟩ : Wk) :: x.H) (fun _ : HQ => .tuple #[]) (fun y => y.bh = x.bh ∧ LH y (L.leave t) B) (fun y => WKE b (⟨t, k, 6, false, (lfind (lfe L) k).1, (lfind (lfe L) k).2⟩ : Wk) :: y.H) := by
  intro w hE hH
  obtain ⟨es, hnd, hri, hfi, hsm⟩ := h.nd2 h2
  have hfe : lfe L = es := by unfold lfe; rw [hnd]; rfl
  subst hfe
  refine enter (n := 146) (vs := [ptV b, ptV x.bh]) (St w (dom (WKE b (⟨t, k, 5, true, v0, f0⟩ : Wk) :: x.H)) (WKE b (⟨t, k, 5, true, v0, f0⟩ : Wk) :: x.H)) func123 I I I (St.init hH) ?_
  refine c_seq ?_
  refine c_meet2 (fun (s : N4) (bn : Nat) => [(0, ptV b), (1, ptV x.bh), (4, .pointer (some ⟨bn, 0, none⟩)), (5, .bool true)]) (fun (s : N4) (bn : Nat) => St w (dom (WKE b (⟨t, k, 5, true, v0, f0⟩ : Wk) :: x.H)) (cellsE bn 135 (⟨s, L.r.nd⟩ : NV).c :: (nrows (⟨s, L.r.nd⟩ : NV) ++ (WKE b (⟨t, k, 5, true, v0, f0⟩ : Wk) :: x.H)))) (fun (s : N4) (bn : Nat) => True) ?_ ?_
  · refine c_any (fun w2 => (WKE b (⟨t, k, 5, true, v0, f0⟩ : Wk)).at w2 ∧ (cellsE x.bh 91 x.cells).at w2) I St.drawn (Aq 0 I (H2 0 1 I) (q_move I I) (Aq 1 I (H2 0 1 I) (q_nilCheck I I) (Aq 2 I (H2 0 1 I) (q_fieldAddr I U91 I Z86 I I) (Aq 3 I (H2 0 1 I) (q_loadC I G86 I (fun _ h => h.2) I) (Aq 4 I (H2 0 1 I) (q_move I I) (Aq 5 I (H2 0 1 I) (q_nilCheck I I) (Aq 6 I (H2 0 1 I) (q_fieldAddr I U226 I Z3 I I) (Aq 7 I (H2 0 1 I) (q_loadC I G3 I (fun _ h => h.1) (Wk.mid _ (j := 1) I)) ?_))))))))
    refine a_all2 8 12 (by kernel_rfl) I I I I ?_ ?_ 
    · refine pull6 (pull6 (pull6 (pull6 (pull6 (pull6 (pull6 (e_callH [_] (lnode h h2) I I I call116 I Tt ?_)))))))
      intro s _
      refine Pre.world (St _ _ (_ :: _ :: _ :: _ :: _ :: HQ.H (x))) Ih ?_
      refine d_held (H2 0 5 I) (Aq 9 I (H2 0 5 I) (q_move I I) (Aq 10 I (H2 0 5 I) (q_extract I I I) (Aq 11 I (H2 0 5 I) (q_extract I I I) (a_all1 12 (by kernel_rfl) I I (e_alloc I I I zeroValue135 ?_)))))
      intro bn
      refine cells_eq (show _ = nv0.c from I) (d_held (H2 1 6 I) (a_all1 13 (by kernel_rfl) I I (e_storeAgg I I Z135 I I I (NV.one _) (by show 0 + 5 ≤ 5; decide) (cells_eq (show Sep.splice _ 0 ((⟨s, L.r.nd⟩ : NV)).c = ((⟨s, L.r.nd⟩ : NV)).c from Sep.splice_all I) (d_held (H2 1 6 I) (Aq 14 I (H2 1 6 I) (q_assign I I) (a_nil (by kernel_rfl) (pull11 (pull11 (pull11 (pull11 (pull11 (pull11 (pull7 (pull11 (pull11 (pull11 (pull11 (pull11 ?_)))))))))))))))))))
      exact k_meet ((s, bn)) trivial (Sub.cons I (Sub.cons I (Sub.cons I (Sub.cons I (Sub.nil))))) (fun _ h => h)
    · refine e_alloc I I I zeroValue135 ?_
      intro bn
      refine cells_eq (show _ = nv0.c from I) (d_held (H2 1 2 I) (pull7 (pull7 (pull7 (pull7 (pull7 (pull7 (pull7 (pull7 (a_all1 8 (by kernel_rfl) I I (e_callH [_, _] (lnode h h2) I I I call116 I Tt ?_)))))))))))
      intro s _
      refine Pre.world (St _ _ (_ :: _ :: _ :: _ :: _ :: _ :: HQ.H (x))) Ih ?_
      refine d_held (H2 1 6 I) (Aq 9 I (H2 1 6 I) (q_move I I) (Aq 10 I (H2 1 6 I) (q_extract I I I) (Aq 11 I (H2 1 6 I) (q_extract I I I) (a_all1 13 (by kernel_rfl) I I (e_storeAgg I I Z135 I I I (NV.one _) (by show 0 + 5 ≤ 5; decide) (cells_eq (show Sep.splice _ 0 ((⟨s, L.r.nd⟩ : NV)).c = ((⟨s, L.r.nd⟩ : NV)).c from Sep.splice_all I) (d_held (H2 1 6 I) (Aq 14 I (H2 1 6 I) (q_assign I I) (a_nil (by kernel_rfl) (pull11 (pull11 (pull11 (pull11 (pull11 (pull11 (pull7 (pull11 (pull11 (pull11 (pull11 (pull11 ?_)))))))))))))))))))))
      exact k_meet ((s, bn)) trivial (Sub.cons I (Sub.cons I (Sub.cons I (Sub.cons I (Sub.nil))))) (fun _ h => h)
  · intro s bn _
    refine c_seq (c_seq (D4 [(0,O),(1,O),(2,O),(3,O),(4,O),(5,O),(6,W),(7,W)] [6, 7] [(_,O),(_,O),(_,O),(_,O),(_,O),(_,O),(_,W),(_,W)] (fun w2 => (WKE b (⟨t, k, 5, true, v0, f0⟩ : Wk)).at w2 ∧ (cellsE x.bh 91 x.cells).at w2 ∧ (cellsE bn 135 ((⟨s, L.r.nd⟩ : NV).c)).at w2) I I I I St.drawn (fun _ h => ⟨h.at 5 rfl, h.at 6 rfl, h.at 0 rfl⟩) (Dfa U135 I Z132 I (Dq I (q_loadC I isAgg132 I (fun _ h => h.2.2) I) (Dm I (Dc I (Dfa U226 I Z77 I (Dq I (q_loadCAgg ((⟨t, k, 5, true, v0, f0⟩ : Wk).k.c) I G77 Z77 I (fun _ h => h.1) (Wk.k_part _) (Kv.c_len _)) (d_t I (e_call_00 (kid0 k) I I I call178 I (fun _ h => by have h9 := h.rd 3 rfl; rw [hnd] at h9; exact h9) ?_))))))))))
    intro _ _
    refine d_t I (e_q I I (q_assign I I) (d_nil (Kt (Cs I (Lm I (Lm I (Lm I (Lfa U135 I Z22 I (Lo G22 0 I (Lq I (q_lenV I U22 I (Hrd 2 I)) (Lq I (q_lss I I I) (Lq I (q_pick_t I I I) (Nk (Sb 35 false I (by rw [hnd]; rfl) (c_false I (c_skip (Ks (D4 [(0,O),(1,O),(2,O),(3,O),(4,O),(5,O),(6,O),(7,O),(8,V),(9,O),(10,O),(11,O),(12,O),(13,O),(14,V),(15,W),(16,W),(17,W)] [15, 16, 17] [(_,O),(_,O),(_,O),(_,O),(_,O),(_,O),(_,O),(_,O),(_,V),(_,O),(_,O),(_,O),(_,O),(_,O),(_,V),(_,W),(_,W),(_,W)] (fun w2 => (∃ cs, (cellsE b 226 cs).at w2 ∧ (cs.drop 1).take 9 = k.c) ∧ (cellsE bn 135 (⟨s, L.r.nd⟩ : NV).c).at w2) rfl rfl rfl rfl St.drawn (fun _ h => ⟨⟨_, h.at 5 rfl, Wk.k_part _⟩, h.at 0 rfl⟩) (Dm I (Dm I (Dfa U135 I Z49 I (Dq I (q_loadC I G49 I (fun _ h => h.2) I) (Dm I ?_)))))))))))))))))))))))
    refine Dc I (Dfa U226 I Z77 I (Dq I (q_loadCAggE k.c I G77 Z77 I (fun _ h => h.1) (Kv.c_len _)) (d_e I (e_call_00 (lfind_spec (lfe L) k hri (by have := hsm.e; show (lfe L).length ≤ 65536; exact Nat.le_trans this (by decide))) I I I call181 I (Hrd 1 I) ?_))))
    intro _ _
    refine d_held (fun _ h => ⟨⟨_, h.at 5 rfl, Wk.k_part _⟩, h.at 0 rfl⟩) (Dm I (Dq I (q_extract I I I) (Dq I (q_extract I I I) (Dc I (Dfa U226 I Z56 I (pull5 (d_e I (e_storeAgg I I Z56 I I (Kv.c_len _) (Kv.one _) (by rw [Kv.c_len, Wk.c_len]; decide) (cells_eq (show _ = ((⟨t, k, 5, true, (lfind (lfe L) k).1, f0⟩ : Wk)).c from Wk.set_v _ _) (d_held (fun _ h => ⟨⟨_, h.at 0 rfl, Wk.k_part _⟩, h.at 1 rfl⟩) (d_t I (e_q I I (q_nilCheck I I) (d_t I (e_q I I (q_fieldAddr I U226 I Z4 I I) (d_t I (e_store I I Z4 I I I (by rw [Wk.c_len]; decide) (cells_eq (show _ = ((⟨t, k, 5, true, (lfind (lfe L) k).1, (lfind (lfe L) k).2⟩ : Wk)).c from Wk.set_f _ _) (d_nil (Ks (Cs I (Lm I (Lc I (Lfa U226 I Z4 I ?_)))))))))))))))))))))))
    refine Lq I (q_loadC I G4 I (Hat 0 I) (Wk.mid _ (j := 34) I)) (Nk (c_false I (c_skip (Ks (D4 [(0,O),(1,O),(2,O),(3,O),(4,O),(5,O),(6,O),(7,O),(8,O),(9,W)] [9] [(_,O),(_,O),(_,O),(_,O),(_,O),(_,O),(_,O),(_,O),(_,O),(_,W)] (fun w2 => (WKE b (⟨t, k, 5, true, (lfind (lfe L) k).1, (lfind (lfe L) k).2⟩ : Wk)).at w2) I I I I St.drawn (Hat 0 I) (Dm I (Dm I (Dc I (Dfa U226 I Z3 I (Dq I (q_loadC I G3 I Ih I) (Dm I (Dc I (Dfa U226 I Z3 I (Dq I (q_loadC I G3 I Ih (Wk.mid _ (j := 1) I)) (pull11 (pull11 (pull11 (pull11 (pull11 (pull11 (pull6 (pull11 (pull11 ?_)))))))))))))))))))))))
    refine pull11 (pull11 (pull11 (d_t I (e_callH [_, _, _, _, _, _] (lleave h ht h2 hhs) I I I call122 I Tt ?_))))
    rintro ⟨y, v⟩ ⟨hbh, hy⟩
    refine Pre.world (St _ _ (_ :: _ :: _ :: _ :: _ :: _ :: HQ.H (y))) Ih ?_
    refine d_nil (Kt (Cr I (Lm I (Lm I (Lc I (Lfa U226 I Z3 I (pull5 (l_e I (e_store I I Z3 I I I (by rw [Wk.c_len]; decide) (cells_eq (show _ = ((⟨t, k, 6, true, (lfind (lfe L) k).1, (lfind (lfe L) k).2⟩ : Wk)).c from Wk.set_mid (j := 0) I I I I (by decide) I) (Lc I (Lfa U226 I Z4 I (l_e I (e_store I I Z4 I I I (by rw [Wk.c_len]; decide) (cells_eq (show _ = ((⟨t, k, 6, false, (lfind (lfe L) k).1, (lfind (lfe L) k).2⟩ : Wk)).c from Wk.set_mid (j := 3) I I I I (by decide) I) (l_nil (r_normal (pull11 (pull11 (pull11 (pull11 (pull11 (pull11 ?_)))))))))))))))))))))))
    refine pull6 (pull11 (pull11 (pull11 (pull11 (pull11 (drop0 (drop0 (drop0 (drop0 (drop0 (r_none I ?_)))))))))))
    exact fun _ hh => ⟨y, rfl, ⟨hbh, hy⟩, hh⟩
theorem wklook {x : HQ} {L : Lf} {B : Nat} (h : LH x L B) {t : Int} (ht : tkB t = true) (hmay : L.mayH t = true) (b : Nat) (k : Kv 8) (v0 : Kv 16) (f0 : Bool) (h2 : L.r.st = 2) (hhs : hasB L.la t = true) : Con Tryz.prog 77 [ptV b, ptV x.bh] (fun _ => True) (WKE b (⟨t, k, 5, true, v0, f0⟩ : Wk) :: x.H) (fun y : HQ => .bool true) (fun y => y.bh = x.bh ∧ LH y (L.leave t) B) (fun y => WKE b (⟨t, k, 6, false, (lfind (lfe L) k).1, (lfind (lfe L) k).2⟩ : Wk) :: y.H) := by
  intro w hE hH
  refine enter (n := 115) (vs := [ptV b, ptV x.bh]) (St w (dom (WKE b (⟨t, k, 5, true, v0, f0⟩ : Wk) :: x.H)) (WKE b (⟨t, k, 5, true, v0, f0⟩ : Wk) :: x.H)) func77 I I I (St.init hH) ?_
  refine Cs I (Ak I (c_scope 0 I (c_seq (Cs I (Lm I (Lc I (Lfa U226 I Z3 I (Lq I (q_loadC I G3 I (Hat 0 I) (Wk.mid _ (j := 0) I)) (Lq I (q_eql I I I) (Lm I (Sb 10 false I (I) (Lm I (Lm I (Lc I (Lfa U226 I Z3 I (Lo G3 0 I (l_e I (e_callH [_] (lmay h t) I I I call82 I Tt ?_))))))))))))))))))
  intro _ _
  refine Pre.world (St _ _ (_ :: HQ.H (x))) Ih ?_
  refine Sv' 16 (.bool true) I (by rw [hmay]) (Lq I (q_not I I) (Lq I (q_pick_f I I I) (Nk (c_false I (c_skip (Ks (Cs I (Lm I (Lc I (Lfa U226 I Z3 I (Lq I (q_loadC I G3 I (Hat 0 I) (Wk.mid _ (j := 0) I)) (Nk (c_block (Cs I (Lq I (q_eql I I I) (Ak I (Sb 23 false I (I) (c_false I (Cs I (Lq I (q_eql I I I) (Ak I (Sb 52 false I (I) (c_false I ?_)))))))))))))))))))))))
  refine Cs I (Lq I (q_eql I I I) (Ak I (Sb 67 false I (I) (c_false I (Cs I (Lq I (q_eql I I I) (Ak I (Sb 89 false I (I) (c_false I (c_skip (k_block (Kt (Cs I (Lm I (Lm I (l_e I (e_callH [] (wlook h ht b k v0 f0 h2 hhs) I I I call123 I Tt ?_)))))))))))))))))
  rintro y ⟨hbh, hy⟩
  refine Pre.world (St _ _ (_ :: HQ.H y)) Ih ?_
  refine Ns (c_label (Kt (Cs I (Lm I (Lc I (Lfa U226 I Z3 I (Lq I (q_loadC I G3 I (Hat 0 I) (Wk.mid _ (j := 0) I)) (Lq I (q_eql I I I) (Ak I (c_ret (k_jump_ret (r_one I I ?_))))))))))))
  exact fun _ hh => ⟨y, rfl, ⟨hbh, hy⟩, hh⟩
end Go.Proofs.YtloldofjddbjoaaGreat
namespace Go.Proofs.YtloldofjddbjoaaGreat
open Go.Sep Go.RowKit Tryz
theorem kcmp_neg (a b : Kv 8) : kcmp b a = -kcmp a b := lex_neg _ _
theorem lput_rise {l : List En} {m : Ms} (hs : Rise l) (hk : ∀ e ∈ l, kck e.key = true) (hm : kck m.key = true) : Rise (lput l m) := by
  have hcross : ∀ a ∈ l.take (lpos l m.key), ∀ b ∈ l.drop (lpos l m.key), kcmp a.key b.key < 0 := by
    have h1 : (l.take (lpos l m.key) ++ l.drop (lpos l m.key)).Pairwise (fun a b : En => kcmp a.key b.key < 0) := by rw [List.take_append_drop]; exact hs
    exact (List.pairwise_append.1 h1).2.2
  have hlow : ∀ a ∈ l.take (lpos l m.key), kcmp a.key m.key < 0 := fun a ha => by
    obtain ⟨j, hj⟩ := List.mem_iff_getElem?.1 ha
    rw [List.getElem?_take] at hj
    split at hj
    · rename_i hlt; exact lpos_lt hlt hj
    · cases hj
  have hnew : ∀ b ∈ lnew l m, b.key = m.key := fun b hb => by
    unfold lnew at hb
    split at hb
    · simp at hb; rw [hb]
    · simp at hb
  have hhigh : ∀ b ∈ l.drop (lpos l m.key + (if lis l m.key = true then 1 else 0)), kcmp m.key b.key < 0 := fun b hb => by
    obtain ⟨j, hj⟩ := List.mem_iff_getElem?.1 hb
    rw [List.getElem?_drop] at hj
    by_cases hl : lis l m.key = true
    · rw [if_pos hl] at hj
      obtain ⟨e, h1, h2, _⟩ := lis_at hl
      have := pair_at hs _ _ e b (by omega) h1 hj
      rwa [h2] at this
    · rw [if_neg hl] at hj
      have hge := lpos_ge (k := m.key) hs (by omega) hj
      have hne : kcmp m.key b.key ≠ 0 := fun h0 => by
        have hbk := hk b (List.mem_of_getElem? hj)
        have he : b.key = m.key := (key_ext hm hbk (lex_zero h0)).symm
        rcases Nat.eq_zero_or_pos j with h | h
        · subst h
          refine hl ?_
          unfold lis
          rw [show lpos l m.key + 0 + 0 = lpos l m.key by omega] at hj
          rw [hj]
          exact decide_eq_true he
        · obtain ⟨d, hd⟩ : ∃ d, l[lpos l m.key]? = some d := ⟨_, List.getElem?_eq_getElem (by have := (List.getElem?_eq_some_iff.1 hj).1; omega)⟩
          have h3 := pair_at hs _ _ d b (by omega) hd hj
          rw [he] at h3
          exact lpos_ge hs (Nat.le_refl _) hd h3
      have h2 := kcmp_neg b.key m.key
      omega
  have hsub : ∀ b ∈ l.drop (lpos l m.key + (if lis l m.key = true then 1 else 0)), b ∈ l.drop (lpos l m.key) := fun b hb => by
    rw [← List.drop_drop] at hb
    exact List.mem_of_mem_drop hb
  unfold lput Rise
  rw [List.append_assoc]
  refine List.pairwise_append.2 ⟨hs.sublist (List.take_sublist _ _), List.pairwise_append.2 ⟨?_, hs.sublist (List.drop_sublist _ _), fun a ha b hb => by rw [hnew a ha]; exact hhigh b hb⟩, fun a ha b hb => ?_⟩
  · unfold lnew; split
    · exact List.pairwise_singleton _ _
    · exact List.Pairwise.nil
  · rcases List.mem_append.1 hb with h | h
    · rw [hnew b h]; exact hlow a ha
    · exact hcross a ha b (hsub b h)
theorem fit_parts {es : List En} (h : fitL (lfd es) = true) : lck es = true ∧ lby es ≤ 248 := by
  unfold fitL at h
  simp only [Bool.and_eq_true, decide_eq_true_eq] at h
  exact ⟨h.1.1, h.2⟩
theorem fit_keys {es : List En} (h : fitL (lfd es) = true) : ∀ e ∈ es, kck e.key = true ∧ vck e.val = true := fun e he => by
  obtain ⟨i, hi⟩ := List.mem_iff_getElem?.1 he
  have h1 := lckAt_parts hi (lck_at (fit_parts h).1 hi)
  exact ⟨h1.1, h1.2.1⟩
theorem vck_nn {v : Kv 16} (h : vck v = true) : 0 ≤ v.n := by
  unfold vck at h
  rcases Int.lt_or_le v.n 0 with h0 | h0
  · exfalso
    unfold vcheck at h
    simp at h
    omega
  · exact h0
theorem lby_len : ∀ {es : List En}, (∀ e ∈ es, kck e.key = true ∧ vck e.val = true) → 2 * (es.length : Int) ≤ lby es
  | [], _ => by simp [lby]
  | e :: es, h => by
    have ih := lby_len (es := es) (fun x hx => h x (List.mem_cons_of_mem _ hx))
    obtain ⟨h1, h2⟩ := h e (List.mem_cons_self ..)
    obtain ⟨m, hm, _⟩ := kck_parts h1
    have hv := vck_nn h2
    have e1 : lby (e :: es) = lsz e + lby es := by simp [lby]
    rw [e1, List.length_cons]
    unfold lsz
    omega
theorem fit_sm {es : List En} (h : fitL (lfd es) = true) : (lfd es).Sm 1000 := by
  have h1 := lby_len (fit_keys h)
  have h2 := (fit_parts h).2
  exact ⟨by show es.length ≤ 1000; omega, Nat.zero_le _, Nat.zero_le _, Nat.zero_le _⟩
theorem m16_list (k : Kv 16) : ∃ a b c d e f g h a2 b2 c2 d2 e2 f2 g2 h2 : Int, k.b = [a, b, c, d, e, f, g, h, a2, b2, c2, d2, e2, f2, g2, h2] := by
  obtain ⟨n, b, len, _, _⟩ := k
  match b, len with
  | [a, b, c, d, e, f, g, h, a2, b2, c2, d2, e2, f2, g2, h2], _ => exact ⟨a, b, c, d, e, f, g, h, a2, b2, c2, d2, e2, f2, g2, h2, rfl⟩
structure Wr where
  t : Int
  m : Ms
  at' : Int
  pin : Bool
  room : Value
  e : Int
def Ms.setSeq (m : Ms) (s : Int) (h : (Lit.int .u64 s).wf = true) : Ms := { m with seq := s, ws := h }
theorem Ms.set_seq (m : Ms) (s : Int) (h : (Lit.int .u64 s).wf = true) : m.c.set 1 (.int .u64 s) = (m.setSeq s h).c := rfl
namespace Wr
def four (w : Wr) : List Value := [.int .i64 w.at', .bool w.pin, w.room, .int .i64 w.e]
def c (w : Wr) : List Value := (.int .i64 w.t :: w.m.c) ++ w.four
theorem c_len (w : Wr) : w.c.length = 34 := by simp [c, four, Ms.c_len]
theorem hd_len (w : Wr) : (Value.int .i64 w.t :: w.m.c).length = 30 := by simp [Ms.c_len]
theorem mid (w : Wr) {j : Nat} {v : Value} (h : w.four[j]? = some v) : w.c[30 + j]? = some v := by
  unfold c
  rw [List.getElem?_append_right (by rw [hd_len]; omega), hd_len, Nat.add_sub_cancel_left]
  exact h
theorem m_part (w : Wr) : (w.c.drop 1).take 29 = w.m.c := by
  unfold c
  rw [List.cons_append, List.drop_succ_cons, List.drop_zero]
  exact List.take_left' (Ms.c_len _)
theorem set_mid {w w' : Wr} {j : Nat} {v : Value} (ht : w'.t = w.t) (hm : w'.m = w.m) (h : w.four.set j v = w'.four) : w.c.set (30 + j) v = w'.c := by
  unfold c
  rw [List.set_append_right _ _ (by rw [hd_len]; omega), hd_len, Nat.add_sub_cancel_left, h, ht, hm]
end Wr
abbrev WRE (b : Nat) (w : Wr) : Ent := cellsE b 229 w.c
theorem build_wr0 (t ki sq kn a b c d e f g h vn i0 i1 i2 i3 i4 i5 i6 i7 i8 i9 j0 j1 j2 j3 j4 j5 bw : Int) (w : World) : (Instr.build 229 #[(0, .int .i64 t), (1, .agg [.int .i64 ki, .int .u64 sq, .int .i64 kn, .int .u8 a, .int .u8 b, .int .u8 c, .int .u8 d, .int .u8 e, .int .u8 f, .int .u8 g, .int .u8 h, .int .i64 vn, .int .u8 i0, .int .u8 i1, .int .u8 i2, .int .u8 i3, .int .u8 i4, .int .u8 i5, .int .u8 i6, .int .u8 i7, .int .u8 i8, .int .u8 i9, .int .u8 j0, .int .u8 j1, .int .u8 j2, .int .u8 j3, .int .u8 j4, .int .u8 j5, .int .u64 bw].toArray)]).run Tryz.prog w = .ok (.agg [.int .i64 t, .int .i64 ki, .int .u64 sq, .int .i64 kn, .int .u8 a, .int .u8 b, .int .u8 c, .int .u8 d, .int .u8 e, .int .u8 f, .int .u8 g, .int .u8 h, .int .i64 vn, .int .u8 i0, .int .u8 i1, .int .u8 i2, .int .u8 i3, .int .u8 i4, .int .u8 i5, .int .u8 i6, .int .u8 i7, .int .u8 i8, .int .u8 i9, .int .u8 j0, .int .u8 j1, .int .u8 j2, .int .u8 j3, .int .u8 j4, .int .u8 j5, .int .u64 bw, .int .i64 0, .bool false, .pointer none, .int .i64 0].toArray) w := by kernel_rfl
theorem build_wk0 (t kn a b c d e f g h : Int) (w : World) : (Instr.build 226 #[(0, .int .i64 t), (1, .agg [.int .i64 kn, .int .u8 a, .int .u8 b, .int .u8 c, .int .u8 d, .int .u8 e, .int .u8 f, .int .u8 g, .int .u8 h].toArray), (2, .int .i64 1), (3, .int .i64 0)]).run Tryz.prog w = .ok (.agg [.int .i64 t, .int .i64 kn, .int .u8 a, .int .u8 b, .int .u8 c, .int .u8 d, .int .u8 e, .int .u8 f, .int .u8 g, .int .u8 h, .int .i64 1, .int .i64 0, .int .i64 0, .bool false, .bool false, .int .i64 0, .int .u64 0, .int .i64 0, .int .u8 0, .int .u8 0, .int .u8 0, .int .u8 0, .int .u8 0, .int .u8 0, .int .u8 0, .int .u8 0, .int .i64 0, .int .u8 0, .int .u8 0, .int .u8 0, .int .u8 0, .int .u8 0, .int .u8 0, .int .u8 0, .int .u8 0, .int .u8 0, .int .u8 0, .int .u8 0, .int .u8 0, .int .u8 0, .int .u8 0, .int .u8 0, .int .u8 0, .int .u64 0, .bool false, .int .i64 0, .int .u8 0, .int .u8 0, .int .u8 0, .int .u8 0, .int .u8 0, .int .u8 0, .int .u8 0, .int .u8 0, .int .u8 0, .int .u8 0, .int .u8 0, .int .u8 0, .int .u8 0, .int .u8 0, .int .u8 0, .int .u8 0, .bool false].toArray) w := by kernel_rfl
theorem build_wr (t : Int) (m : Ms) (w : World) : (Instr.build 229 #[(0, .int .i64 t), (1, .agg m.c.toArray)]).run Tryz.prog w = .ok (.agg (Wr.c ⟨t, m, 0, false, .pointer none, 0⟩).toArray) w := by
  obtain ⟨ki, sq, key, val, by', h1, h2, h3⟩ := m
  obtain ⟨a, b, c, d, e, f, g, h, hk⟩ := kv8_list key
  obtain ⟨i0, i1, i2, i3, i4, i5, i6, i7, i8, i9, j0, j1, j2, j3, j4, j5, hv⟩ := m16_list val
  have e1 : (Ms.c ⟨ki, sq, key, val, by', h1, h2, h3⟩) = [.int .i64 ki, .int .u64 sq, .int .i64 key.n, .int .u8 a, .int .u8 b, .int .u8 c, .int .u8 d, .int .u8 e, .int .u8 f, .int .u8 g, .int .u8 h, .int .i64 val.n, .int .u8 i0, .int .u8 i1, .int .u8 i2, .int .u8 i3, .int .u8 i4, .int .u8 i5, .int .u8 i6, .int .u8 i7, .int .u8 i8, .int .u8 i9, .int .u8 j0, .int .u8 j1, .int .u8 j2, .int .u8 j3, .int .u8 j4, .int .u8 j5, .int .u64 by'] := by
    unfold Ms.c Kv.c
    rw [hk, hv]; rfl
  unfold Wr.c
  dsimp only
  rw [e1]
  exact build_wr0 t ki sq key.n a b c d e f g h val.n i0 i1 i2 i3 i4 i5 i6 i7 i8 i9 j0 j1 j2 j3 j4 j5 by' w
theorem build_wk (t : Int) (k : Kv 8) (w : World) : (Instr.build 226 #[(0, .int .i64 t), (1, .agg k.c.toArray), (2, .int .i64 1), (3, .int .i64 0)]).run Tryz.prog w = .ok (.agg (Wk.c ⟨t, k, 1, false, kv0 16, false⟩).toArray) w := by
  obtain ⟨a, b, c, d, e, f, g, h, hk⟩ := kv8_list k
  have e1 : k.c = [.int .i64 k.n, .int .u8 a, .int .u8 b, .int .u8 c, .int .u8 d, .int .u8 e, .int .u8 f, .int .u8 g, .int .u8 h] := by
    unfold Kv.c; rw [hk]; rfl
  unfold Wk.c
  dsimp only
  rw [e1]
  exact build_wk0 t k.n a b c d e f g h w
section
variable {P : Program} {n : Nat} {L : Env} {o : Oper} {Q : Exit → Act → World → Prop} {K : Act → World → Prop} {w0 : World} {D : List Nat}
theorem e_callFH {β : Type} {v : β → Value} {p : β → Prop} {E : World → Prop} {HA : List Ent} {HB : β → List Ent} {g : Operand} {f : FuncId} {xs : List Operand} {ts : Array TypeId} {d : Nat} {vs : List Value} (pre : List Ent) (s : Con P f vs E HA v p HB) (ho : o.op = .call ⟨.value g, xs.toArray, ts⟩) (hd : o.dst = some d) (hn : d.blt n = true) (hg : ev L g = some (.func (.func f) #[] #[]))
    (hc : ∀ us w, (callFunc f us).run P w = .ok (.enter f us) w) (hv : evs L xs = some vs) (hE : ∀ w, St w0 D (pre ++ HA) w → E w) (h : ∀ b, p b → Pre n ((d, v b) :: L) (St w0 D (pre ++ HB b)) K) : EOp P n L (St w0 D (pre ++ HA)) o Q K :=
  e_callV (us := []) ho hd hn hg hc hv (fun w x => by rw [List.append_nil]; exact (s.frame (F := pre) (x.perm List.perm_append_comm) (hE w x)).mono (fun e w' ⟨b, he, hp, h'⟩ => ⟨b, he, hp, h'.perm List.perm_append_comm⟩)) h
end
abbrev rmC (t at' : Int) (lo : Int) (has pin root : Bool) (e : Int) : List Value := [.int .i64 t, .bool true, .int .i64 at', .int .i64 0, .int .i64 lo, .bool has, .bool pin, .bool root, .int .i64 e]
abbrev RME (b : Nat) (t at' : Int) (has : Bool) (e : Int) : Ent := cellsE b 249 (rmC t at' 0 has false true e)
end Go.Proofs.YtloldofjddbjoaaGreat
namespace Go.Proofs.YtloldofjddbjoaaGreat
open Go.Sep Go.RowKit Tryz
theorem wrpin {x : HQ} {L : Lf} {B : Nat} (h : LH x L B) {t : Int} (ht : tkB t = true) (b : Nat) (m : Ms) (sq : Int) (hl : t ∉ L.ld) (hB : B + 1 ≤ 60000) : Con Tryz.prog 182 [ptV b, ptV x.bh, .int .u64 sq] (fun _ => True) (WRE b (⟨t, m, 0, false, (.pointer none), 0⟩ : Wr) :: x.H) (fun y : HQ => .bool false) (fun y => y.bh = x.bh ∧ LH y (L.pin t).2 (B + 1)) (fun y => WRE b (⟨t, m, (if (L.pin t).1 = 3 then 1 else 2), true, (.pointer none), 0⟩ : Wr) :: y.H) := by
  intro w hE hH
  refine enter (n := 30) (vs := [ptV b, ptV x.bh, .int .u64 sq]) (St w (dom (WRE b (⟨t, m, 0, false, (.pointer none), 0⟩ : Wr) :: x.H)) (WRE b (⟨t, m, 0, false, (.pointer none), 0⟩ : Wr) :: x.H)) func182 I I I (St.init hH) ?_
  refine Cs I (Ak I (c_seq (Cs I (Lm I (Lm I (Lc I (Lfa U229 I Z3 I (Lo G3 0 I ?_))))))))
  have hp3 := pin_cases L t
  refine l_e I (e_callH [_] (lpin h ht hl hB) I I I call121 I Tt ?_)
  rintro y ⟨hbh, hy⟩
  refine Pre.world (St _ _ (_ :: HQ.H (y))) Ih ?_
  refine Nk (c_block (c_seq (Cs I (Lq I (q_eql I I I) (Ak I ?_)))))
  rcases hp3 with e3 | e3 | e3
  · refine Sv' 12 (.int .i64 1) I (by rw [e3]) (Sb 13 true I (by first | rfl | (rw [e3]; rfl)) (c_true I (c_skip (Kt (c_true I (Cr I (Lm I (Lm I (Lc I (Lfa U229 I Z3 I (l_e I (e_store I I Z3 I I I (by rw [Wr.c_len]; decide) (cells_eq (show _ = ((⟨t, m, 2, false, (.pointer none), 0⟩ : Wr)).c from Wr.set_mid (j := 0) I I I) (Lc I (Lfa U229 I Z4 I (l_e I (e_store I I Z4 I I I (by rw [Wr.c_len]; decide) (cells_eq (show _ = ((⟨t, m, 2, true, (.pointer none), 0⟩ : Wr)).c from Wr.set_mid (j := 1) I I I) (l_nil (k_block (Kt (Cs I (Ak I ?_)))))))))))))))))))))))
    refine c_ret (pull6 (pull6 (pull6 (pull6 (pull6 (pull6 (pull6 (r_one I I ?_))))))))
    exact fun _ hh => ⟨y, rfl, ⟨hbh, hy⟩, by dsimp only; rw [e3]; exact hh⟩
  · refine Sv' 12 (.int .i64 2) I (by rw [e3]) (Sb 13 false I (by first | rfl | (rw [e3]; rfl)) (c_false I (Cr I (Lq I (q_eql I I I) (Ak I (Sb 13 true I (by first | rfl | (rw [e3]; rfl)) (c_true I (Cr I (Lm I (Lm I (Lc I (Lfa U229 I Z3 I (l_e I (e_store I I Z3 I I I (by rw [Wr.c_len]; decide) (cells_eq (show _ = ((⟨t, m, 2, false, (.pointer none), 0⟩ : Wr)).c from Wr.set_mid (j := 0) I I I) (Lc I (Lfa U229 I Z4 I (l_e I (e_store I I Z4 I I I (by rw [Wr.c_len]; decide) (cells_eq (show _ = ((⟨t, m, 2, true, (.pointer none), 0⟩ : Wr)).c from Wr.set_mid (j := 1) I I I) (l_nil (k_block (Kt ?_)))))))))))))))))))))))
    refine Cs I (Ak I (c_ret (pull6 (pull6 (pull6 (pull6 (pull6 (pull6 (pull6 (r_one I I ?_))))))))))
    exact fun _ hh => ⟨y, rfl, ⟨hbh, hy⟩, by dsimp only; rw [e3]; exact hh⟩
  · refine Sv' 12 (.int .i64 3) I (by rw [e3]) (Sb 13 false I (by first | rfl | (rw [e3]; rfl)) (c_false I (Cr I (Lq I (q_eql I I I) (Ak I (Sb 13 false I (by first | rfl | (rw [e3]; rfl)) (c_false I (Cs I (Lq I (q_eql I I I) (Ak I (Sb 22 true I (by first | rfl | (rw [e3]; rfl)) (c_true I (Cr I (Lm I (Lm I (Lc I (Lfa U229 I Z3 I (l_e I (e_store I I Z3 I I I (by rw [Wr.c_len]; decide) (cells_eq (show _ = ((⟨t, m, 1, false, (.pointer none), 0⟩ : Wr)).c from Wr.set_mid (j := 0) I I I) (Lc I (Lfa U229 I Z4 I (l_e I ?_)))))))))))))))))))))))
    refine e_store I I Z4 I I I (by rw [Wr.c_len]; decide) (cells_eq (show _ = ((⟨t, m, 1, true, (.pointer none), 0⟩ : Wr)).c from Wr.set_mid (j := 1) I I I) (l_nil (k_block (Kt (Cs I (Ak I (c_ret (pull6 (pull6 (pull6 (pull6 (pull6 (pull6 (pull6 (r_one I I ?_)))))))))))))))
    exact fun _ hh => ⟨y, rfl, ⟨hbh, hy⟩, by dsimp only; rw [e3]; exact hh⟩
theorem wrload {x : HQ} {L : Lf} {B : Nat} (h : LH x L B) {t : Int} (ht : tkB t = true) (b : Nat) (m : Ms) (sq : Int) (hr : L.rt = some t) (h1 : L.r.st = 1) : Con Tryz.prog 183 [ptV b, ptV x.bh, .int .u64 sq] (fun _ => True) (WRE b (⟨t, m, 1, true, (.pointer none), 0⟩ : Wr) :: x.H) (fun y : HQ => .bool false) (fun y => y.bh = x.bh ∧ LH y L.fill B) (fun y => WRE b (⟨t, m, 2, true, (.pointer none), 0⟩ : Wr) :: y.H) := by
  intro w hE hH
  refine enter (n := 16) (vs := [ptV b, ptV x.bh, .int .u64 sq]) (St w (dom (WRE b (⟨t, m, 1, true, (.pointer none), 0⟩ : Wr) :: x.H)) (WRE b (⟨t, m, 1, true, (.pointer none), 0⟩ : Wr) :: x.H)) func183 I I I (St.init hH) ?_
  refine Cs I (Ak I (Cs I (Lm I (Lm I (Lc I (Lfa U229 I Z3 I (Lo G3 0 I (l_e I (e_callH [_] (lload h hr h1) I I I call85 I Tt ?_)))))))))
  rintro ⟨y, v, bo⟩ ⟨hbh, hy⟩
  refine Pre.world (St _ _ (_ :: HQ.H (y))) Ih ?_
  refine Nk (Cs I (Lm I (Lc I (Lfa U229 I Z3 I (l_e I (e_store I I Z3 I I I (by rw [Wr.c_len]; decide) (cells_eq (show _ = ((⟨t, m, 2, true, (.pointer none), 0⟩ : Wr)).c from Wr.set_mid (j := 0) I I I) (Nk (Cs I (Ak I (c_ret (pull6 (pull6 (pull6 (pull6 (pull6 (pull6 (pull6 (r_one I I ?_)))))))))))))))))))
  exact fun _ hh => ⟨y, rfl, ⟨hbh, hy⟩, hh⟩
theorem wrtake {x : HQ} {L : Lf} {B : Nat} (h : LH x L B) {t : Int} (ht : tkB t = true) (b : Nat) (m : Ms) (sq : Int) (h2 : L.r.st = 2) (hB : B + 1 ≤ 60000) : Con Tryz.prog 184 [ptV b, ptV x.bh, .int .u64 sq] (fun _ => True) (WRE b (⟨t, m, 2, true, (.pointer none), 0⟩ : Wr) :: x.H) (fun y : HQ => .bool false) (fun y => y.bh = x.bh ∧ LH y (L.take t true) (B + 1)) (fun y => WRE b (⟨t, m, 3, true, (.pointer none), 0⟩ : Wr) :: y.H) := by
  intro w hE hH
  refine enter (n := 16) (vs := [ptV b, ptV x.bh, .int .u64 sq]) (St w (dom (WRE b (⟨t, m, 2, true, (.pointer none), 0⟩ : Wr) :: x.H)) (WRE b (⟨t, m, 2, true, (.pointer none), 0⟩ : Wr) :: x.H)) func184 I I I (St.init hH) ?_
  refine Cs I (Ak I (Cs I (Lm I (Lm I (Lc I (Lfa U229 I Z3 I (Lo G3 0 I (l_e I (e_callH [_] (ltk h ht h2 hB true) I I I call86 I Tt ?_)))))))))
  rintro ⟨y, bo⟩ ⟨hbh, hy⟩
  refine Pre.world (St _ _ (_ :: HQ.H (y))) Ih ?_
  refine Nk (Cs I (Lm I (Lc I (Lfa U229 I Z3 I (l_e I (e_store I I Z3 I I I (by rw [Wr.c_len]; decide) (cells_eq (show _ = ((⟨t, m, 3, true, (.pointer none), 0⟩ : Wr)).c from Wr.set_mid (j := 0) I I I) (Nk (Cs I (Ak I (c_ret (pull6 (pull6 (pull6 (pull6 (pull6 (pull6 (pull6 (r_one I I ?_)))))))))))))))))))
  exact fun _ hh => ⟨y, rfl, ⟨hbh, hy⟩, hh⟩
theorem wrleave {x : HQ} {L : Lf} {B : Nat} (h : LH x L B) {t : Int} (ht : tkB t = true) (b : Nat) (m : Ms) (e : Int) (h2 : L.r.st = 2) (hhs : hasB L.la t = true) (a0 : Int) (r0 : Value) : Con Tryz.prog 254 [ptV b, ptV x.bh, .int .i64 e] (fun _ => True) (WRE b (⟨t, m, a0, true, r0, 0⟩ : Wr) :: x.H) (fun y : HQ => .tuple #[]) (fun y => y.bh = x.bh ∧ LH y (L.leave t) B) (fun y => WRE b (⟨t, m, 5, false, (.pointer none), e⟩ : Wr) :: y.H) := by
  intro w hE hH
  refine enter (n := 25) (vs := [ptV b, ptV x.bh, .int .i64 e]) (St w (dom (WRE b (⟨t, m, a0, true, r0, 0⟩ : Wr) :: x.H)) (WRE b (⟨t, m, a0, true, r0, 0⟩ : Wr) :: x.H)) func254 I I I (St.init hH) ?_
  refine Cs I (Lm I (Lm I (Lc I (Lfa U229 I Z3 I (Lo G3 0 I (l_e I (e_callH [_] (lleave h ht h2 hhs) I I I call122 I Tt ?_)))))))
  rintro ⟨y, v⟩ ⟨hbh, hy⟩
  refine Pre.world (St _ _ (_ :: HQ.H (y))) Ih ?_
  refine Nk (Cr I (Lm I (Lm I (Lm I (Lm I (Lm I (Lc I (Lfa U229 I Z3 I (l_e I (e_store I I Z3 I I I (by rw [Wr.c_len]; decide) (cells_eq (show _ = ((⟨t, m, 5, true, r0, 0⟩ : Wr)).c from Wr.set_mid (j := 0) I I I) (Lc I (Lfa U229 I Z4 I (l_e I (e_store I I Z4 I I I (by rw [Wr.c_len]; decide) (cells_eq (show _ = ((⟨t, m, 5, false, r0, 0⟩ : Wr)).c from Wr.set_mid (j := 1) I I I) (Lc I (Lfa U229 I Z177 I (l_e I (e_store I I Z177 I I I (by rw [Wr.c_len]; decide) (cells_eq (show _ = ((⟨t, m, 5, false, (.pointer none), 0⟩ : Wr)).c from Wr.set_mid (j := 2) I I I) (Lc I (Lfa U229 I Z44 I ?_)))))))))))))))))))))))
  refine l_e I (e_store I I Z44 I I I (by rw [Wr.c_len]; decide) (cells_eq (show _ = ((⟨t, m, 5, false, (.pointer none), e⟩ : Wr)).c from Wr.set_mid (j := 3) I I I) (l_nil (r_normal (pull6 (pull6 (pull6 (pull6 (pull6 (pull6 (pull6 (r_none I ?_))))))))))))
  exact fun _ hh => ⟨y, rfl, ⟨hbh, hy⟩, hh⟩
theorem rmnew (t : Int) : Con Tryz.prog 137 [.int .i64 t, .bool true] (fun _ => True) [] (fun br : Nat => ptV br) (fun _ => True) (fun br => [RME br t 1 true 0]) := by
  intro w hE hH
  refine enter (n := 9) (vs := [.int .i64 t, .bool true]) (St w [] []) func137 I I I (St.init hH) ?_
  refine Cs I (Ak I (Cs I (Lm I (Lm I (Lq I (q_build (rmC t 1 0 true false true 0) I I (fun w => by kernel_rfl)) (l_e I (e_box I I I I ?_)))))))
  intro br
  refine cells_eq (show _ = rmC t 1 0 true false true 0 from I) (Ak I (c_ret (r_one I I ?_)))
  exact fun _ h => ⟨br, rfl, trivial, h⟩
theorem wrins_yes {x : HQ} {L : Lf} {B : Nat} (h : LH x L B) {t : Int} (ht : tkB t = true) (b : Nat) (m : Ms) (sq : Int) (hsq : (Lit.int .u64 sq).wf = true) (hmk : kck m.key = true) (h2 : L.r.st = 2) (hw : L.la.wr = t) (hhs : hasB L.la t = true) (hf : fitL (lfd (lput (lfe L) m)) = true) : Con Tryz.prog 185 [ptV b, ptV x.bh, .int .u64 sq] (fun _ => True) (WRE b (⟨t, m, 3, true, (.pointer none), 0⟩ : Wr) :: x.H) (fun y : HQ => .bool true) (fun y => y.bh = x.bh ∧ LH y ((L.setN (lput (lfe L) m)).leave t) B) (fun y => WRE b (⟨t, m, 5, false, (.pointer none), 0⟩ : Wr) :: y.H) := by
  intro w hE hH
  obtain ⟨es, hnd, hri, hfi, hsm⟩ := h.nd2 h2
  have hfe : lfe L = es := by unfold lfe; rw [hnd]; rfl
  subst hfe
  have hri2 : Rise (lput (lfe L) m) := lput_rise hri (fun e he => (fit_keys hfi e he).1) hmk
  refine enter (n := 54) (vs := [ptV b, ptV x.bh, .int .u64 sq]) (St w (dom (WRE b (⟨t, m, 3, true, (.pointer none), 0⟩ : Wr) :: x.H)) (WRE b (⟨t, m, 3, true, (.pointer none), 0⟩ : Wr) :: x.H)) func185 I I I (St.init hH) ?_
  refine Cs I (Ak I (c_seq ?_))
  have hlf : L.r.nd.leaf = true := by rw [hnd]; rfl
  have hins : insL L.r.nd (m.setSeq sq hsq) = lfd (lput (lfe L) m) := by rw [hnd]; rfl
  refine Cr I (Lm I (Lc I (Lfa U91 I Z86 I (Lo G86 1 I (l_e I (e_callH [_] (lnode h h2) I I I call116 I Tt ?_))))))
  intro s _
  refine Pre.world (St _ _ (_ :: _ :: _ :: _ :: _ :: HQ.H (x))) Ih ?_
  refine Lm I (Lq I (q_extract I I I) (Lq I (q_extract I I I) (l_e I (e_alloc I I I zeroValue135 ?_))))
  intro bn
  refine cells_eq (show _ = nv0.c from I) (l_e I (e_storeAgg I I Z135 I I I (NV.one _) (by show 0 + 5 ≤ 5; decide) (cells_eq (show Sep.splice _ 0 ((⟨s, L.r.nd⟩ : NV)).c = ((⟨s, L.r.nd⟩ : NV)).c from Sep.splice_all I) (Ak I (Cs I (Lm I (Lc I (Lfa U229 I Z154 I (Lq I (q_loadCAgg ((⟨t, m, 3, true, (.pointer none), 0⟩ : Wr).m.c) I G154 Z154 I (Hat 1 I) (Wr.m_part _) (Ms.c_len _)) (l_e I (e_alloc I I I zeroValue154 ?_)))))))))))
  intro bm
  refine cells_eq (show _ = ms0.c from I) (l_e I (e_storeAgg I I Z154 I I (Ms.c_len _) (Ms.one _) (by simp only [Ms.c_len]; decide) (cells_eq (show _ = Ms.c m from Sep.splice_all (by simp only [Ms.c_len])) (Nk (Cs I (Lm I (Lfa U154 I Z41 I (l_e I (e_store I I Z41 I I I (by rw [Ms.c_len]; decide) (cells_eq (Ms.set_seq m sq hsq) (Nk (Cs I (Lq I (q_loadCAgg ((⟨s, L.r.nd⟩ : NV).c) I G135 Z135 I (Hat 1 I) (I) (I)) (Lq I (q_loadCAgg ((m.setSeq sq hsq).c) I G154 Z154 I (Hat 0 I) (ms_whole _) (Ms.c_len _)) (l_e I (e_call_01 (ainsert_leaf (⟨s, L.r.nd⟩ : NV) (m.setSeq sq hsq) hlf (by rw [hnd]; exact hri) (by rw [hnd]; exact hri2) (by rw [hnd]; exact hsm.mono (by decide))) I I I call253 I (fun _ h => ⟨h.rd 3 rfl, h.rd 4 rfl, h.rd 5 rfl, h.rd 6 rfl⟩) ?_))))))))))))))))
  intro s2 _
  refine Sv' 28 (.tuple #[.agg (⟨⟨s2, s.k, s.p, s.m⟩, insL L.r.nd (m.setSeq sq hsq)⟩ : NV).c.toArray, .bool true]) I (by dsimp only; rw [if_pos (show fitL (insL L.r.nd (m.setSeq sq hsq)) = true from by rw [hins, hf])]) (Lm I (Lq I (q_extract I I I) (Lq I (q_extract I I I) (pull2 (l_e I (e_storeAgg I I Z135 I I I (NV.one _) (by show 0 + 5 ≤ 5; decide) (cells_eq (show Sep.splice _ 0 ((⟨⟨s2, s.k, s.p, s.m⟩, insL L.r.nd (m.setSeq sq hsq)⟩ : NV)).c = ((⟨⟨s2, s.k, s.p, s.m⟩, insL L.r.nd (m.setSeq sq hsq)⟩ : NV)).c from Sep.splice_all I) (Ak I (c_seq (Cs I (Lm I (Lq I (q_not I I) (Nk (c_false I (c_skip (Ks (D4 [(0,O),(1,O),(2,O),(3,O),(4,O),(5,O),(6,W)] [6] [(_,O),(_,O),(_,O),(_,O),(_,O),(_,O),(_,W)] (fun w2 => (WRE b (⟨t, m, 3, true, (.pointer none), 0⟩ : Wr)).at w2 ∧ (cellsE bn 135 (⟨⟨s2, s.k, s.p, s.m⟩, insL L.r.nd (m.setSeq sq hsq)⟩ : NV).c).at w2) I I I I St.drawn (H2 3 0 I) (Dm I (Dm I (Dc I (Dfa U229 I Z3 I (Dq I (q_loadC I G3 I (fun _ h => h.1) I) (Dq I (q_loadCAgg ((⟨⟨s2, s.k, s.p, s.m⟩, insL L.r.nd (m.setSeq sq hsq)⟩ : NV).c) I G135 Z135 I (fun _ h => h.2) (I) (I)) ?_)))))))))))))))))))))))
  refine pull13 (pull13 (pull13 (pull13 (pull13 (pull13 (pull13 (pull13 (pull13 (pull10 (pull12 (pull13 (pull13 (pull13 (d_t I (e_callH [_, _, _, _] (lset h ht h2 hw (nv := (⟨⟨s2, s.k, s.p, s.m⟩, insL L.r.nd (m.setSeq sq hsq)⟩ : NV)) hins hri2 hf (by show (insL L.r.nd (m.setSeq sq hsq)).Sm 1000; rw [hins]; exact fit_sm hf)) I I I call204 I Tt ?_)))))))))))))))
  rintro ⟨y, bo⟩ ⟨hbh, hy⟩
  refine Pre.world (St _ _ (_ :: _ :: _ :: _ :: _ :: _ :: _ :: _ :: HQ.H (y))) Ih ?_
  refine d_nil (Kt (Cs I (Lm I (Lm I (pull13 (pull13 (pull13 (pull13 (pull13 (pull13 (pull9 (pull13 (pull13 (pull13 (pull13 (pull13 (pull13 (pull13 ?_))))))))))))))))))
  have hhs2 : hasB (L.setN (lput (lfe L) m)).la t = true := hhs
  have hbe : ptV y.bh = ptV x.bh := by rw [hbh]
  refine Sv' 52 (ptV y.bh) I (by rw [hbh]) (l_e I (e_callH [_, _, _, _, _, _, _] (wrleave hy ht b m (0 : Int) h2 hhs2 3 (.pointer none)) I I I call254 I Tt ?_))
  rintro z ⟨hbz, hz⟩
  refine Pre.world (St _ _ (_ :: _ :: _ :: _ :: _ :: _ :: _ :: _ :: HQ.H z)) Ih ?_
  refine Nk (Cs I (Ak I (c_ret (drop0 (drop0 (drop0 (drop0 (drop0 (drop0 (drop0 (r_one I I ?_)))))))))))
  exact fun _ hh => ⟨z, rfl, ⟨by rw [hbz, hbh], hz⟩, hh⟩
theorem wrins_no {x : HQ} {L : Lf} {B : Nat} (h : LH x L B) {t : Int} (ht : tkB t = true) (b : Nat) (m : Ms) (sq : Int) (hsq : (Lit.int .u64 sq).wf = true) (hmk : kck m.key = true) (h2 : L.r.st = 2) (hw : L.la.wr = t) (hf : fitL (lfd (lput (lfe L) m)) = false) : Con Tryz.prog 185 [ptV b, ptV x.bh, .int .u64 sq] (fun _ => True) (WRE b (⟨t, m, 3, true, (.pointer none), 0⟩ : Wr) :: x.H) (fun br : Nat => .bool false) (fun _ => True) (fun br => RME br t 1 true 0 :: WRE b (⟨t, m, 4, true, (ptV br), 0⟩ : Wr) :: x.H) := by
  intro w hE hH
  obtain ⟨es, hnd, hri, hfi, hsm⟩ := h.nd2 h2
  have hfe : lfe L = es := by unfold lfe; rw [hnd]; rfl
  subst hfe
  have hri2 : Rise (lput (lfe L) m) := lput_rise hri (fun e he => (fit_keys hfi e he).1) hmk
  refine enter (n := 54) (vs := [ptV b, ptV x.bh, .int .u64 sq]) (St w (dom (WRE b (⟨t, m, 3, true, (.pointer none), 0⟩ : Wr) :: x.H)) (WRE b (⟨t, m, 3, true, (.pointer none), 0⟩ : Wr) :: x.H)) func185 I I I (St.init hH) ?_
  refine Cs I (Ak I (c_seq ?_))
  have hlf : L.r.nd.leaf = true := by rw [hnd]; rfl
  have hins : insL L.r.nd (m.setSeq sq hsq) = lfd (lput (lfe L) m) := by rw [hnd]; rfl
  refine Cr I (Lm I (Lc I (Lfa U91 I Z86 I (Lo G86 1 I (l_e I (e_callH [_] (lnode h h2) I I I call116 I Tt ?_))))))
  intro s _
  refine Pre.world (St _ _ (_ :: _ :: _ :: _ :: _ :: HQ.H (x))) Ih ?_
  refine Lm I (Lq I (q_extract I I I) (Lq I (q_extract I I I) (l_e I (e_alloc I I I zeroValue135 ?_))))
  intro bn
  refine cells_eq (show _ = nv0.c from I) (l_e I (e_storeAgg I I Z135 I I I (NV.one _) (by show 0 + 5 ≤ 5; decide) (cells_eq (show Sep.splice _ 0 ((⟨s, L.r.nd⟩ : NV)).c = ((⟨s, L.r.nd⟩ : NV)).c from Sep.splice_all I) (Ak I (Cs I (Lm I (Lc I (Lfa U229 I Z154 I (Lq I (q_loadCAgg ((⟨t, m, 3, true, (.pointer none), 0⟩ : Wr).m.c) I G154 Z154 I (Hat 1 I) (Wr.m_part _) (Ms.c_len _)) (l_e I (e_alloc I I I zeroValue154 ?_)))))))))))
  intro bm
  refine cells_eq (show _ = ms0.c from I) (l_e I (e_storeAgg I I Z154 I I (Ms.c_len _) (Ms.one _) (by simp only [Ms.c_len]; decide) (cells_eq (show _ = Ms.c m from Sep.splice_all (by simp only [Ms.c_len])) (Nk (Cs I (Lm I (Lfa U154 I Z41 I (l_e I (e_store I I Z41 I I I (by rw [Ms.c_len]; decide) (cells_eq (Ms.set_seq m sq hsq) (Nk (Cs I (Lq I (q_loadCAgg ((⟨s, L.r.nd⟩ : NV).c) I G135 Z135 I (Hat 1 I) (I) (I)) (Lq I (q_loadCAgg ((m.setSeq sq hsq).c) I G154 Z154 I (Hat 0 I) (ms_whole _) (Ms.c_len _)) (l_e I (e_call_01 (ainsert_leaf (⟨s, L.r.nd⟩ : NV) (m.setSeq sq hsq) hlf (by rw [hnd]; exact hri) (by rw [hnd]; exact hri2) (by rw [hnd]; exact hsm.mono (by decide))) I I I call253 I (fun _ h => ⟨h.rd 3 rfl, h.rd 4 rfl, h.rd 5 rfl, h.rd 6 rfl⟩) ?_))))))))))))))))
  intro s2 _
  refine Sv' 28 (.tuple #[.agg (⟨s, L.r.nd⟩ : NV).c.toArray, .bool false]) I (by dsimp only; rw [if_neg (show ¬ fitL (insL L.r.nd (m.setSeq sq hsq)) = true from by rw [hins, hf]; decide)]) (Lm I (Lq I (q_extract I I I) (Lq I (q_extract I I I) (pull2 (l_e I (e_storeAgg I I Z135 I I I (NV.one _) (by show 0 + 5 ≤ 5; decide) (cells_eq (show Sep.splice _ 0 ((⟨s, L.r.nd⟩ : NV)).c = ((⟨s, L.r.nd⟩ : NV)).c from Sep.splice_all I) (Ak I (c_seq (Cs I (Lm I (Lq I (q_not I I) (Nk (c_true I (Cs I (Lm I (Lm I (Lm I (Lc I (Lfa U229 I Z3 I (Lo G3 3 I (l_e I (e_call_01 (rmnew t) I I I call137 I Tt ?_)))))))))))))))))))))))
  intro br _
  refine Lc I (Lfa U229 I Z3 I (pull4 (l_e I (e_store I I Z3 I I I (by rw [Wr.c_len]; decide) (cells_eq (show _ = ((⟨t, m, 4, true, (.pointer none), 0⟩ : Wr)).c from Wr.set_mid (j := 0) I I I) (Lc I (Lfa U229 I Z177 I (l_e I (e_store I I Z177 I I I (by rw [Wr.c_len]; decide) (cells_eq (show _ = ((⟨t, m, 4, true, (ptV br), 0⟩ : Wr)).c from Wr.set_mid (j := 2) I I I) (Nk (Cs I (Ak I (c_ret (k_then_ret (pull14 (pull14 (pull14 (pull14 (pull14 (pull14 (pull6 (pull7 ?_)))))))))))))))))))))))
  refine pull14 (pull14 (pull14 (pull14 (pull13 (pull14 (pull14 (drop0 (drop0 (drop0 (drop0 (drop0 (drop0 (drop0 (r_one I I ?_))))))))))))))
  exact fun _ hh => ⟨br, rfl, trivial, hh⟩
theorem wrsteps  : Con Tryz.prog 124 [] (fun _ => True) [] (fun _ : Unit => .agg ([fnV 182, fnV 183, fnV 184, fnV 185, fnV 186]).toArray) (fun _ => True) (fun _ => []) := by
  intro w hE hH
  refine enter (n := 2) (vs := []) (St w [] []) func124 I I I (St.init hH) ?_
  refine Cs I (l_e I (e_alloc I I I zeroValue231 ?_))
  intro br
  refine Nk (Cs I (Lq I (q_build ([fnV 182, fnV 183, fnV 184, fnV 185, fnV 186]) I I (fun w => by kernel_rfl)) (l_e I (e_storeAgg rfl rfl sizeOf231 rfl rfl rfl (fun v hv => by simp at hv; rcases hv with rfl | rfl | rfl | rfl | rfl <;> rfl) (by show 0 + 5 ≤ 5; decide) (cells_eq (show _ = [fnV 182, fnV 183, fnV 184, fnV 185, fnV 186] from I) (Nk (c_ret (r_res1 I (res_cellA I isAgg231 sizeOf231 (Hat 0 I) (I)) ?_))))))))
  exact fun _ h => ⟨(), rfl, trivial, h.nothing⟩
theorem wspin {x : HQ} {L : Lf} {B : Nat} (h : LH x L B) {t : Int} (ht : tkB t = true) (hmay : L.mayH t = true) (b : Nat) (m : Ms) (sq : Int) (hl : t ∉ L.ld) (hB : B + 1 ≤ 60000) : Con Tryz.prog 80 [ptV b, ptV x.bh, .int .u64 sq] (fun _ => True) (WRE b (⟨t, m, 0, false, (.pointer none), 0⟩ : Wr) :: x.H) (fun y : HQ => .tuple #[.bool false, .bool false, .int .i64 0]) (fun y => y.bh = x.bh ∧ LH y (L.pin t).2 (B + 1)) (fun y => WRE b (⟨t, m, (if (L.pin t).1 = 3 then 1 else 2), true, (.pointer none), 0⟩ : Wr) :: HQ.H (y)) := by
  intro w hE hH
  refine enter (n := 42) (vs := [ptV b, ptV x.bh, .int .u64 sq]) (St w (dom (WRE b (⟨t, m, 0, false, (.pointer none), 0⟩ : Wr) :: x.H)) (WRE b (⟨t, m, 0, false, (.pointer none), 0⟩ : Wr) :: x.H)) func80 I I I (St.init hH) ?_
  refine Cs I (Las I (Las I (Ak I (c_seq (Cs I (Lm I (Lc I (Lfa U229 I Z3 I (Lq I (q_loadC I G3 I (Hat 0 I) (Wr.mid _ (j := 0) I)) (Lq I (q_neq I I I) (Lm I (Sb 14 true I (I) (Lm I (Lm I (Lc I (Lfa U229 I Z3 I (Lo G3 0 I (l_e I (e_callH [_] (lmay h t) I I I call82 I Tt ?_)))))))))))))))))))
  intro _ _
  refine Pre.world (St _ _ (_ :: HQ.H (x))) Ih ?_
  refine Sv' 20 (.bool true) I (by rw [hmay]) (Lq I (q_pick_t I I I) (Nk (c_true I (D8 [(1,O),(2,O),(3,O),(4,O),(6,O),(7,O),(8,O),(0,V),(5,O),(9,W),(10,W)] [9, 10] [(_,O),(_,O),(_,O),(_,O),(_,O),(_,O),(_,O),(_,V),(_,O),(_,W),(_,W)] (fun w2 => (WRE b (⟨t, m, 0, false, (.pointer none), 0⟩ : Wr)).at w2) I I I I St.drawn (Hat 0 I) (Dm I (Dc I (Dfa U229 I Z3 I (Dq I (q_loadC I G3 I Ih (Wr.mid _ (j := 0) I)) (Dm I (Dm I (Dm I (d_e I (e_call_00 (wrsteps) I I I call124 I Tt ?_)))))))))))))
  intro _ _
  refine d_held (Hat 0 I) (Dq I (q_indexA (v := fnV 182) I I I (fun w => by kernel_rfl)) (d_t I (e_callFH [] (wrpin h ht b m sq hl hB) I I I I call182 I Tt ?_)))
  rintro y ⟨hbh, hy⟩
  refine Pre.world (St _ _ (_ :: HQ.H (y))) Ih ?_
  refine d_t I (e_q I I (q_assign I I) (d_nil (Ks (D8 [(0,O),(1,O),(2,O),(3,O),(4,O),(5,O),(6,O),(7,O),(8,O),(9,O),(10,O),(11,O),(12,W)] [12] [(_,O),(_,O),(_,O),(_,O),(_,O),(_,O),(_,O),(_,O),(_,O),(_,O),(_,O),(_,O),(_,W)] _ I I I I St.drawn Ih (Dm I (Dc I (Dfa U229 I Z3 I (Dq I (q_loadC I G3 I (Hat 0 I) (Wr.mid _ (j := 0) I)) (Dq I (q_eql I I I) (Dm I (Dm I (Dc I (Dfa U229 I Z44 I (Dq I (q_loadC I G44 I (Hat 0 I) (Wr.mid _ (j := 3) I)) (Das I (Das I (d_t I (e_q I I (q_assign I I) (d_nil (Kt (c_ret (r_many (rs := [.tmp 6, .tmp 7, .tmp 8]) I I ?_))))))))))))))))))))))
  exact fun _ hh => ⟨y, congrArg (fun z => Ending.returned (Value.tuple #[Value.bool z, .bool false, .int .i64 0])) (by dsimp only; split <;> rfl), ⟨hbh, hy⟩, hh⟩
theorem wsload {x : HQ} {L : Lf} {B : Nat} (h : LH x L B) {t : Int} (ht : tkB t = true) (hmay : L.mayH t = true) (b : Nat) (m : Ms) (sq : Int) (hr : L.rt = some t) (h1 : L.r.st = 1) : Con Tryz.prog 80 [ptV b, ptV x.bh, .int .u64 sq] (fun _ => True) (WRE b (⟨t, m, 1, true, (.pointer none), 0⟩ : Wr) :: x.H) (fun y : HQ => .tuple #[.bool false, .bool false, .int .i64 0]) (fun y => y.bh = x.bh ∧ LH y L.fill B) (fun y => WRE b (⟨t, m, 2, true, (.pointer none), 0⟩ : Wr) :: HQ.H (y)) := by
  intro w hE hH
  refine enter (n := 42) (vs := [ptV b, ptV x.bh, .int .u64 sq]) (St w (dom (WRE b (⟨t, m, 1, true, (.pointer none), 0⟩ : Wr) :: x.H)) (WRE b (⟨t, m, 1, true, (.pointer none), 0⟩ : Wr) :: x.H)) func80 I I I (St.init hH) ?_
  refine Cs I (Las I (Las I (Ak I (c_seq (Cs I (Lm I (Lc I (Lfa U229 I Z3 I (Lq I (q_loadC I G3 I (Hat 0 I) (Wr.mid _ (j := 0) I)) (Lq I (q_neq I I I) (Lm I (Sb 14 true I (I) (Lm I (Lm I (Lc I (Lfa U229 I Z3 I (Lo G3 0 I (l_e I (e_callH [_] (lmay h t) I I I call82 I Tt ?_)))))))))))))))))))
  intro _ _
  refine Pre.world (St _ _ (_ :: HQ.H (x))) Ih ?_
  refine Sv' 20 (.bool true) I (by rw [hmay]) (Lq I (q_pick_t I I I) (Nk (c_true I (D8 [(1,O),(2,O),(3,O),(4,O),(6,O),(7,O),(8,O),(0,V),(5,O),(9,W),(10,W)] [9, 10] [(_,O),(_,O),(_,O),(_,O),(_,O),(_,O),(_,O),(_,V),(_,O),(_,W),(_,W)] (fun w2 => (WRE b (⟨t, m, 1, true, (.pointer none), 0⟩ : Wr)).at w2) I I I I St.drawn (Hat 0 I) (Dm I (Dc I (Dfa U229 I Z3 I (Dq I (q_loadC I G3 I Ih (Wr.mid _ (j := 0) I)) (Dm I (Dm I (Dm I (d_e I (e_call_00 (wrsteps) I I I call124 I Tt ?_)))))))))))))
  intro _ _
  refine d_held (Hat 0 I) (Dq I (q_indexA (v := fnV 183) I I I (fun w => by kernel_rfl)) (d_t I (e_callFH [] (wrload h ht b m sq hr h1) I I I I call183 I Tt ?_)))
  rintro y ⟨hbh, hy⟩
  refine Pre.world (St _ _ (_ :: HQ.H (y))) Ih ?_
  refine d_t I (e_q I I (q_assign I I) (d_nil (Ks (D8 [(0,O),(1,O),(2,O),(3,O),(4,O),(5,O),(6,O),(7,O),(8,O),(9,O),(10,O),(11,O),(12,W)] [12] [(_,O),(_,O),(_,O),(_,O),(_,O),(_,O),(_,O),(_,O),(_,O),(_,O),(_,O),(_,O),(_,W)] _ I I I I St.drawn Ih (Dm I (Dc I (Dfa U229 I Z3 I (Dq I (q_loadC I G3 I (Hat 0 I) (Wr.mid _ (j := 0) I)) (Dq I (q_eql I I I) (Dm I (Dm I (Dc I (Dfa U229 I Z44 I (Dq I (q_loadC I G44 I (Hat 0 I) (Wr.mid _ (j := 3) I)) (Das I (Das I (d_t I (e_q I I (q_assign I I) (d_nil (Kt (c_ret (r_many (rs := [.tmp 6, .tmp 7, .tmp 8]) I I ?_))))))))))))))))))))))
  exact fun _ hh => ⟨y, congrArg (fun z => Ending.returned (Value.tuple #[Value.bool z, .bool false, .int .i64 0])) (I), ⟨hbh, hy⟩, hh⟩
theorem wstake {x : HQ} {L : Lf} {B : Nat} (h : LH x L B) {t : Int} (ht : tkB t = true) (hmay : L.mayH t = true) (b : Nat) (m : Ms) (sq : Int) (h2 : L.r.st = 2) (hB : B + 1 ≤ 60000) : Con Tryz.prog 80 [ptV b, ptV x.bh, .int .u64 sq] (fun _ => True) (WRE b (⟨t, m, 2, true, (.pointer none), 0⟩ : Wr) :: x.H) (fun y : HQ => .tuple #[.bool false, .bool false, .int .i64 0]) (fun y => y.bh = x.bh ∧ LH y (L.take t true) (B + 1)) (fun y => WRE b (⟨t, m, 3, true, (.pointer none), 0⟩ : Wr) :: HQ.H (y)) := by
  intro w hE hH
  refine enter (n := 42) (vs := [ptV b, ptV x.bh, .int .u64 sq]) (St w (dom (WRE b (⟨t, m, 2, true, (.pointer none), 0⟩ : Wr) :: x.H)) (WRE b (⟨t, m, 2, true, (.pointer none), 0⟩ : Wr) :: x.H)) func80 I I I (St.init hH) ?_
  refine Cs I (Las I (Las I (Ak I (c_seq (Cs I (Lm I (Lc I (Lfa U229 I Z3 I (Lq I (q_loadC I G3 I (Hat 0 I) (Wr.mid _ (j := 0) I)) (Lq I (q_neq I I I) (Lm I (Sb 14 true I (I) (Lm I (Lm I (Lc I (Lfa U229 I Z3 I (Lo G3 0 I (l_e I (e_callH [_] (lmay h t) I I I call82 I Tt ?_)))))))))))))))))))
  intro _ _
  refine Pre.world (St _ _ (_ :: HQ.H (x))) Ih ?_
  refine Sv' 20 (.bool true) I (by rw [hmay]) (Lq I (q_pick_t I I I) (Nk (c_true I (D8 [(1,O),(2,O),(3,O),(4,O),(6,O),(7,O),(8,O),(0,V),(5,O),(9,W),(10,W)] [9, 10] [(_,O),(_,O),(_,O),(_,O),(_,O),(_,O),(_,O),(_,V),(_,O),(_,W),(_,W)] (fun w2 => (WRE b (⟨t, m, 2, true, (.pointer none), 0⟩ : Wr)).at w2) I I I I St.drawn (Hat 0 I) (Dm I (Dc I (Dfa U229 I Z3 I (Dq I (q_loadC I G3 I Ih (Wr.mid _ (j := 0) I)) (Dm I (Dm I (Dm I (d_e I (e_call_00 (wrsteps) I I I call124 I Tt ?_)))))))))))))
  intro _ _
  refine d_held (Hat 0 I) (Dq I (q_indexA (v := fnV 184) I I I (fun w => by kernel_rfl)) (d_t I (e_callFH [] (wrtake h ht b m sq h2 hB) I I I I call184 I Tt ?_)))
  rintro y ⟨hbh, hy⟩
  refine Pre.world (St _ _ (_ :: HQ.H (y))) Ih ?_
  refine d_t I (e_q I I (q_assign I I) (d_nil (Ks (D8 [(0,O),(1,O),(2,O),(3,O),(4,O),(5,O),(6,O),(7,O),(8,O),(9,O),(10,O),(11,O),(12,W)] [12] [(_,O),(_,O),(_,O),(_,O),(_,O),(_,O),(_,O),(_,O),(_,O),(_,O),(_,O),(_,O),(_,W)] _ I I I I St.drawn Ih (Dm I (Dc I (Dfa U229 I Z3 I (Dq I (q_loadC I G3 I (Hat 0 I) (Wr.mid _ (j := 0) I)) (Dq I (q_eql I I I) (Dm I (Dm I (Dc I (Dfa U229 I Z44 I (Dq I (q_loadC I G44 I (Hat 0 I) (Wr.mid _ (j := 3) I)) (Das I (Das I (d_t I (e_q I I (q_assign I I) (d_nil (Kt (c_ret (r_many (rs := [.tmp 6, .tmp 7, .tmp 8]) I I ?_))))))))))))))))))))))
  exact fun _ hh => ⟨y, congrArg (fun z => Ending.returned (Value.tuple #[Value.bool z, .bool false, .int .i64 0])) (I), ⟨hbh, hy⟩, hh⟩
theorem wsyes {x : HQ} {L : Lf} {B : Nat} (h : LH x L B) {t : Int} (ht : tkB t = true) (hmay : L.mayH t = true) (b : Nat) (m : Ms) (sq : Int) (hsq : (Lit.int .u64 sq).wf = true) (hmk : kck m.key = true) (h2 : L.r.st = 2) (hw : L.la.wr = t) (hhs : hasB L.la t = true) (hf : fitL (lfd (lput (lfe L) m)) = true) : Con Tryz.prog 80 [ptV b, ptV x.bh, .int .u64 sq] (fun _ => True) (WRE b (⟨t, m, 3, true, (.pointer none), 0⟩ : Wr) :: x.H) (fun y : HQ => .tuple #[.bool true, .bool true, .int .i64 0]) (fun y => y.bh = x.bh ∧ LH y ((L.setN (lput (lfe L) m)).leave t) B) (fun y => WRE b (⟨t, m, 5, false, (.pointer none), 0⟩ : Wr) :: HQ.H (y)) := by
  intro w hE hH
  refine enter (n := 42) (vs := [ptV b, ptV x.bh, .int .u64 sq]) (St w (dom (WRE b (⟨t, m, 3, true, (.pointer none), 0⟩ : Wr) :: x.H)) (WRE b (⟨t, m, 3, true, (.pointer none), 0⟩ : Wr) :: x.H)) func80 I I I (St.init hH) ?_
  refine Cs I (Las I (Las I (Ak I (c_seq (Cs I (Lm I (Lc I (Lfa U229 I Z3 I (Lq I (q_loadC I G3 I (Hat 0 I) (Wr.mid _ (j := 0) I)) (Lq I (q_neq I I I) (Lm I (Sb 14 true I (I) (Lm I (Lm I (Lc I (Lfa U229 I Z3 I (Lo G3 0 I (l_e I (e_callH [_] (lmay h t) I I I call82 I Tt ?_)))))))))))))))))))
  intro _ _
  refine Pre.world (St _ _ (_ :: HQ.H (x))) Ih ?_
  refine Sv' 20 (.bool true) I (by rw [hmay]) (Lq I (q_pick_t I I I) (Nk (c_true I (D8 [(1,O),(2,O),(3,O),(4,O),(6,O),(7,O),(8,O),(0,V),(5,O),(9,W),(10,W)] [9, 10] [(_,O),(_,O),(_,O),(_,O),(_,O),(_,O),(_,O),(_,V),(_,O),(_,W),(_,W)] (fun w2 => (WRE b (⟨t, m, 3, true, (.pointer none), 0⟩ : Wr)).at w2) I I I I St.drawn (Hat 0 I) (Dm I (Dc I (Dfa U229 I Z3 I (Dq I (q_loadC I G3 I Ih (Wr.mid _ (j := 0) I)) (Dm I (Dm I (Dm I (d_e I (e_call_00 (wrsteps) I I I call124 I Tt ?_)))))))))))))
  intro _ _
  refine d_held (Hat 0 I) (Dq I (q_indexA (v := fnV 185) I I I (fun w => by kernel_rfl)) (d_t I (e_callFH [] (wrins_yes h ht b m sq hsq hmk h2 hw hhs hf) I I I I call185 I Tt ?_)))
  rintro y ⟨hbh, hy⟩
  refine Pre.world (St _ _ (_ :: HQ.H (y))) Ih ?_
  refine d_t I (e_q I I (q_assign I I) (d_nil (Ks (D8 [(0,O),(1,O),(2,O),(3,O),(4,O),(5,O),(6,O),(7,O),(8,O),(9,O),(10,O),(11,O),(12,W)] [12] [(_,O),(_,O),(_,O),(_,O),(_,O),(_,O),(_,O),(_,O),(_,O),(_,O),(_,O),(_,O),(_,W)] _ I I I I St.drawn Ih (Dm I (Dc I (Dfa U229 I Z3 I (Dq I (q_loadC I G3 I (Hat 0 I) (Wr.mid _ (j := 0) I)) (Dq I (q_eql I I I) (Dm I (Dm I (Dc I (Dfa U229 I Z44 I (Dq I (q_loadC I G44 I (Hat 0 I) (Wr.mid _ (j := 3) I)) (Das I (Das I (d_t I (e_q I I (q_assign I I) (d_nil (Kt (c_ret (r_many (rs := [.tmp 6, .tmp 7, .tmp 8]) I I ?_))))))))))))))))))))))
  exact fun _ hh => ⟨y, congrArg (fun z => Ending.returned (Value.tuple #[Value.bool z, .bool true, .int .i64 0])) (I), ⟨hbh, hy⟩, hh⟩
theorem wsno {x : HQ} {L : Lf} {B : Nat} (h : LH x L B) {t : Int} (ht : tkB t = true) (hmay : L.mayH t = true) (b : Nat) (m : Ms) (sq : Int) (hsq : (Lit.int .u64 sq).wf = true) (hmk : kck m.key = true) (h2 : L.r.st = 2) (hw : L.la.wr = t) (hf : fitL (lfd (lput (lfe L) m)) = false) : Con Tryz.prog 80 [ptV b, ptV x.bh, .int .u64 sq] (fun _ => True) (WRE b (⟨t, m, 3, true, (.pointer none), 0⟩ : Wr) :: x.H) (fun br : Nat => .tuple #[.bool false, .bool false, .int .i64 0]) (fun _ => True) (fun br => RME br t 1 true 0 :: WRE b (⟨t, m, 4, true, (ptV br), 0⟩ : Wr) :: HQ.H (x)) := by
  intro w hE hH
  refine enter (n := 42) (vs := [ptV b, ptV x.bh, .int .u64 sq]) (St w (dom (WRE b (⟨t, m, 3, true, (.pointer none), 0⟩ : Wr) :: x.H)) (WRE b (⟨t, m, 3, true, (.pointer none), 0⟩ : Wr) :: x.H)) func80 I I I (St.init hH) ?_
  refine Cs I (Las I (Las I (Ak I (c_seq (Cs I (Lm I (Lc I (Lfa U229 I Z3 I (Lq I (q_loadC I G3 I (Hat 0 I) (Wr.mid _ (j := 0) I)) (Lq I (q_neq I I I) (Lm I (Sb 14 true I (I) (Lm I (Lm I (Lc I (Lfa U229 I Z3 I (Lo G3 0 I (l_e I (e_callH [_] (lmay h t) I I I call82 I Tt ?_)))))))))))))))))))
  intro _ _
  refine Pre.world (St _ _ (_ :: HQ.H (x))) Ih ?_
  refine Sv' 20 (.bool true) I (by rw [hmay]) (Lq I (q_pick_t I I I) (Nk (c_true I (D8 [(1,O),(2,O),(3,O),(4,O),(6,O),(7,O),(8,O),(0,V),(5,O),(9,W),(10,W)] [9, 10] [(_,O),(_,O),(_,O),(_,O),(_,O),(_,O),(_,O),(_,V),(_,O),(_,W),(_,W)] (fun w2 => (WRE b (⟨t, m, 3, true, (.pointer none), 0⟩ : Wr)).at w2) I I I I St.drawn (Hat 0 I) (Dm I (Dc I (Dfa U229 I Z3 I (Dq I (q_loadC I G3 I Ih (Wr.mid _ (j := 0) I)) (Dm I (Dm I (Dm I (d_e I (e_call_00 (wrsteps) I I I call124 I Tt ?_)))))))))))))
  intro _ _
  refine d_held (Hat 0 I) (Dq I (q_indexA (v := fnV 185) I I I (fun w => by kernel_rfl)) (d_t I (e_callFH [] (wrins_no h ht b m sq hsq hmk h2 hw hf) I I I I call185 I Tt ?_)))
  rintro br _
  refine Pre.world (St _ _ (_ :: _ :: HQ.H (x))) Ih ?_
  refine d_t I (e_q I I (q_assign I I) (d_nil (Ks (D8 [(0,O),(1,O),(2,O),(3,O),(4,O),(5,O),(6,O),(7,O),(8,O),(9,O),(10,O),(11,O),(12,W)] [12] [(_,O),(_,O),(_,O),(_,O),(_,O),(_,O),(_,O),(_,O),(_,O),(_,O),(_,O),(_,O),(_,W)] _ I I I I St.drawn Ih (Dm I (Dc I (Dfa U229 I Z3 I (Dq I (q_loadC I G3 I (Hat 1 I) (Wr.mid _ (j := 0) I)) (Dq I (q_eql I I I) (Dm I (Dm I (Dc I (Dfa U229 I Z44 I (Dq I (q_loadC I G44 I (Hat 1 I) (Wr.mid _ (j := 3) I)) (Das I (Das I (d_t I (e_q I I (q_assign I I) (d_nil (Kt (c_ret (r_many (rs := [.tmp 6, .tmp 7, .tmp 8]) I I ?_))))))))))))))))))))))
  exact fun _ hh => ⟨br, congrArg (fun z => Ending.returned (Value.tuple #[Value.bool z, .bool false, .int .i64 0])) (I), trivial, hh⟩
theorem rmabove (br : Nat) (t a0 : Int) (vh : Value) : Con Tryz.prog 206 [ptV br, vh] (fun _ => True) [cellsE br 249 (rmC t a0 0 true false true 0)] (fun _ : Unit => .tuple #[]) (fun _ => True) (fun _ => [cellsE br 249 (rmC t a0 0 false false true 0)]) := by
  intro w hE hH
  refine enter (n := 29) (vs := [ptV br, vh]) (St w (dom ([cellsE br 249 (rmC t a0 0 true false true 0)])) ([cellsE br 249 (rmC t a0 0 true false true 0)])) func206 I I I (St.init hH) ?_
  refine Cs I (Lm I (Lc I (Lfa U249 I Z4 I (l_e I (e_store I I Z4 I I I (Nat.le_of_ble_eq_true I) (cells_eq (show _ = rmC t a0 0 false false true 0 from I) (Ns (Cs I (Lm I (Lc I (Lfa U249 I Z3 I (Lo G3 0 I (Lq I (q_eql I I I) (Nk (Sb 11 true I (I) (c_true I (c_seq (Cs I (Lm I (Lc I (Lfa U249 I Z4 I (Lo G4 0 I (Nk ?_)))))))))))))))))))))))
  refine c_true I (c_ret (k_then_ret (k_then_ret (r_none I ?_))))
  exact fun _ h => ⟨(), rfl, trivial, h⟩
theorem rmend (br : Nat) (t a0 e : Int) (vh : Value) : Con Tryz.prog 201 [ptV br, vh, .int .i64 e] (fun _ => True) [cellsE br 249 (rmC t a0 0 true false true 0)] (fun _ : Unit => .tuple #[]) (fun _ => True) (fun _ => [cellsE br 249 (rmC t 11 0 false false true e)]) := by
  intro w hE hH
  refine enter (n := 16) (vs := [ptV br, vh, .int .i64 e]) (St w (dom ([cellsE br 249 (rmC t a0 0 true false true 0)])) ([cellsE br 249 (rmC t a0 0 true false true 0)])) func201 I I I (St.init hH) ?_
  refine Cs I (Lm I (Lm I (l_e I (e_call_11 (rmabove br t a0 vh) I I I call206 I Tt ?_))))
  intro _ _
  refine Nk (Cr I (Lm I (Lm I (Lm I (Lc I (Lfa U249 I Z3 I (l_e I (e_store I I Z3 I I I (Nat.le_of_ble_eq_true I) (cells_eq (show _ = rmC t 11 0 false false true 0 from I) (Lc I (Lfa U249 I Z44 I (l_e I (e_store I I Z44 I I I (Nat.le_of_ble_eq_true I) (cells_eq (show _ = rmC t 11 0 false false true e from I) (l_nil (r_normal (r_none I ?_)))))))))))))))))
  exact fun _ h => ⟨(), rfl, trivial, h⟩
theorem rmchoose (br : Nat) (t : Int) (vh : Value) (nv : NV) (hlf : nv.d.leaf = true) (hlen : 2 ≤ nv.s.e.n) : Con Tryz.prog 138 [ptV br, vh, .agg nv.c.toArray] (fun _ => True) [cellsE br 249 (rmC t 1 0 true false true 0)] (fun _ : Unit => .tuple #[]) (fun _ => True) (fun _ => [cellsE br 249 (rmC t 6 0 true false true 0)]) := by
  intro w hE hH
  refine enter (n := 64) (vs := [ptV br, vh, .agg nv.c.toArray]) (St w (dom ([cellsE br 249 (rmC t 1 0 true false true 0)])) ([cellsE br 249 (rmC t 1 0 true false true 0)])) func138 I I I (St.init hH) ?_
  refine Cs I (l_e I (e_box I I I I ?_))
  intro bn
  refine cells_eq (show _ = nv.c from I) (Nk (Cs I (Lq I (q_loadCAgg (nv.c) I G135 Z135 I (Hat 0 I) (I) (I)) (l_e I (e_call_00 (nheaviest_leaf nv hlf) I I I call200 I Tt ?_)))))
  intro _ _
  refine Ak I (c_block (Cs I (Lm I (Lc I (Lfa U249 I Z3 I (Lo G3 1 I (Lq I (q_eql I I I) (Lm I (Sb 26 true I (by first | rfl | exact hlf | (exact decide_eq_false (by omega)) | (simp only [decide_eq_false_iff_not]; omega)) (Lfa U135 I Z4 I (Lo G4 0 I (Lq I (q_pick_t I I I) (Lm I (Sb 30 true I (hlf) (Lfa U135 I Z49 I (Lo G49 0 I (Lq I (q_len I U49 I) (Lq I (q_lss I I I) (Lq I (q_pick_t I I I) (Ak I (Sb 20 false I (by first | rfl | exact hlf | (exact decide_eq_false (by omega)) | (simp only [decide_eq_false_iff_not]; omega)) (c_false I (Cs I ?_)))))))))))))))))))))))
  refine Lm I (Lc I (Lfa U249 I Z3 I (Lo G3 1 I (Lq I (q_eql I I I) (Lm I (Sb 45 true I (by first | rfl | exact hlf | (exact decide_eq_false (by omega)) | (simp only [decide_eq_false_iff_not]; omega)) (Lfa U135 I Z4 I (Lo G4 0 I (Lm I (Sb 48 true I (hlf) (Lx I (Lx I (Lx I (Lx I (Lq I (q_pick_t I I I) (Lq I (q_pick_t I I I) (Ak I (c_true I (Cr I (Lm I (Lc I (Lfa U249 I Z3 I (pull1 ?_)))))))))))))))))))))))
  refine l_e I (e_store I I Z3 I I I (Nat.le_of_ble_eq_true I) (cells_eq (show _ = rmC t 6 0 true false true 0 from I) (l_nil (k_block (r_normal (pull1 (drop0 (r_none I ?_))))))))
  exact fun _ h => ⟨(), rfl, trivial, h⟩
theorem rmclaim {x : HQ} {L : Lf} {B : Nat} (h : LH x L B) {t : Int} (ht : tkB t = true) (br : Nat) (a0 to : Int) (hB : B + 1 ≤ 60000) (hl : t ∉ L.ld) (hs : L.r.st ≠ 0) (hc : L.cl = 0 ∨ L.ct = t) (h1 : L.cl ≤ 1) : Con Tryz.prog 140 [ptV br, ptV x.bh, .int .i64 to] (fun _ => True) (cellsE br 249 (rmC t a0 0 true false true 0) :: x.H) (fun y : HQ => .tuple #[]) (fun y => y.bh = x.bh ∧ LH y (L.claim t) (B + 1)) (fun y => cellsE br 249 (rmC t to 0 true false true 0) :: y.H) := by
  intro w hE hH
  refine enter (n := 19) (vs := [ptV br, ptV x.bh, .int .i64 to]) (St w (dom (cellsE br 249 (rmC t a0 0 true false true 0) :: x.H)) (cellsE br 249 (rmC t a0 0 true false true 0) :: x.H)) func140 I I I (St.init hH) ?_
  refine c_seq (D4 [(0,O),(1,O),(2,O),(3,O),(4,O),(5,O),(6,O),(7,O),(8,W)] [8] [(_,O),(_,O),(_,O),(_,O),(_,O),(_,O),(_,O),(_,O),(_,W)] (fun w2 => (cellsE br 249 (rmC t a0 0 true false true 0)).at w2 ∧ (cellsE x.bh 91 x.cells).at w2) I I I I St.drawn (H2 0 1 I) (Dm I (Dc I (Dfa U91 I Z86 I (Dq I (q_loadC I G86 I (fun _ h => h.2) I) (Dm I (Dc I (Dfa U249 I Z3 I (Dq I (q_loadC I G3 I (fun _ h => h.1) I) (d_t I (e_callH [_] (lclaim h hB ht hl hs hc h1) I I I call207 I Tt ?_)))))))))))
  rintro y ⟨hbh, hbc, hy⟩
  refine Pre.world (St _ _ (_ :: HQ.H (y))) Ih ?_
  refine d_nil (Kt (c_true I (Cr I (Lm I (Lm I (Lc I (Lfa U249 I Z3 I (l_e I (e_store I I Z3 I I I (Nat.le_of_ble_eq_true I) (cells_eq (show _ = rmC t to 0 true false true 0 from I) (l_nil (r_normal (pull6 (pull6 (pull6 (pull6 (pull6 (pull6 (pull6 (r_none I ?_))))))))))))))))))))
  exact fun _ hh => ⟨y, rfl, ⟨hbh, hy⟩, hh⟩
theorem rmgrow {x : HQ} {L : Lf} {B : Nat} (h : LH x L B) {t : Int} (ht : tkB t = true) (br : Nat) (a0 : Int) (nv : NV) (hcl : L.cl = 2) (hct : L.ct = t) (hls : L.s.left < 2) : Con Tryz.prog 142 [ptV br, ptV x.bh, .agg nv.c.toArray] (fun _ => True) (cellsE br 249 (rmC t a0 0 true false true 0) :: x.H) (fun y : HQ => .tuple #[]) (fun y => y.bh = x.bh ∧ LH y L.give B) (fun y => cellsE br 249 (rmC t 11 0 false false true 3) :: y.H) := by
  intro w hE hH
  refine enter (n := 70) (vs := [ptV br, ptV x.bh, .agg nv.c.toArray]) (St w (dom (cellsE br 249 (rmC t a0 0 true false true 0) :: x.H)) (cellsE br 249 (rmC t a0 0 true false true 0) :: x.H)) func142 I I I (St.init hH) ?_
  refine Cs I (l_e I (e_box I I I I ?_))
  intro bn
  refine cells_eq (show _ = nv.c from I) (Nk (Cs I (Lm I (Lm I (Lc I (Lfa U249 I Z3 I (Lo G3 1 I (pull7 (pull7 (pull7 (pull7 (pull7 (pull7 (pull7 (pull7 (l_e I (e_callH [_, _] (lalloc h ht hcl hct hls) I I I call208 I Tt ?_)))))))))))))))))
  rintro y ⟨hbh, hy⟩
  refine Pre.world (St _ _ (_ :: _ :: HQ.H (y))) Ih ?_
  refine Lm I (Lq I (q_extract I I I) (Lq I (q_extract I I I) (Las I (Ak I (c_seq (Cs I (Lm I (Lq I (q_not I I) (Nk (c_true I (Cs I (Lm I (Lm I (pull7 (pull7 (pull7 (pull7 (pull7 (pull7 (pull6 (pull7 (l_e I (e_call_11 (rmend br t a0 3 _) I I I call201 I Tt ?_)))))))))))))))))))))))
  intro _ _
  refine Nk (c_ret (k_then_ret (pull1 (drop0 (pull6 (pull6 (pull6 (pull6 (pull6 (pull6 (pull6 (r_none I ?_))))))))))))
  exact fun _ hh => ⟨y, rfl, ⟨hbh, hy⟩, hh⟩
theorem rs1 {x : HQ} {L : Lf} {B : Nat} (h : LH x L B) {t : Int} (ht : tkB t = true) (hmay : L.mayH t = true) (br : Nat) (h2 : L.r.st = 2) (hlen : 2 ≤ L.r.nd.es.length) : Con Tryz.prog 88 [ptV br, ptV x.bh] (fun _ => True) (cellsE br 249 (rmC t 1 0 true false true 0) :: x.H) (fun _ : Unit => .tuple #[.bool false, .int .i64 0]) (fun _ => True) (fun _ => cellsE br 249 (rmC t 6 0 true false true 0) :: x.H) := by
  intro w hE hH
  obtain ⟨es, hnd, hri, hfi, hsm⟩ := h.nd2 h2
  refine enter (n := 162) (vs := [ptV br, ptV x.bh]) (St w (dom (cellsE br 249 (rmC t 1 0 true false true 0) :: x.H)) (cellsE br 249 (rmC t 1 0 true false true 0) :: x.H)) func88 I I I (St.init hH) ?_
  refine Cs I (Las I (Ak I (c_seq (Cs I (Lm I (Lc I (Lfa U249 I Z3 I (Lo G3 0 I (Lq I (q_eql I I I) (Nk (Sb 15 false I (I) (c_false I (c_skip (Ks (Cs I (Lm I (Lm I (Lc I (Lfa U249 I Z3 I (Lo G3 0 I (l_e I (e_callH [_] (lmay h t) I I I call82 I Tt ?_))))))))))))))))))))))
  intro _ _
  refine Pre.world (St _ _ (_ :: HQ.H (x))) Ih ?_
  refine Sv' 25 (.bool true) I (by rw [hmay]) (Lq I (q_not I I) (Nk (Sb 26 false I (I) (c_false I (c_skip (Ks ?_))))))
  refine c_meet2 (fun (s : N4) (bp : Nat) => [(0, ptV br), (1, ptV x.bh), (6, .pointer (some ⟨bp, 0, none⟩))]) (fun (s : N4) (bp : Nat) => St w (dom (cellsE br 249 (rmC t 1 0 true false true 0) :: x.H)) (cellsE bp 135 (⟨s, L.r.nd⟩ : NV).c :: (nrows (⟨s, L.r.nd⟩ : NV) ++ (cellsE br 249 (rmC t 1 0 true false true 0) :: x.H)))) (fun (s : N4) (bp : Nat) => True) ?_ ?_
  · refine c_any (fun w2 => (cellsE br 249 (rmC t 1 0 true false true 0)).at w2 ∧ (cellsE x.bh 91 x.cells).at w2) I St.drawn (Aq 0 I (H2 0 1 I) (q_move I I) (Aq 1 I (H2 0 1 I) (q_nilCheck I I) (Aq 2 I (H2 0 1 I) (q_fieldAddr I U91 I Z86 I I) (Aq 3 I (H2 0 1 I) (q_loadC I G86 I (fun _ h => h.2) I) (Aq 4 I (H2 0 1 I) (q_move I I) (Aq 5 I (H2 0 1 I) (q_nilCheck I I) (Aq 6 I (H2 0 1 I) (q_fieldAddr I U249 I Z3 I I) (Aq 7 I (H2 0 1 I) (q_loadC I G3 I (fun _ h => h.1) I) ?_))))))))
    refine a_all2 8 12 (by kernel_rfl) I I I I ?_ ?_ 
    · refine pull6 (pull6 (pull6 (pull6 (pull6 (pull6 (pull6 (e_callH [_] (lnode h h2) I I I call116 I Tt ?_)))))))
      intro s _
      refine Pre.world (St _ _ (_ :: _ :: _ :: _ :: _ :: HQ.H (x))) Ih ?_
      refine d_held (H2 0 5 I) (Aq 9 I (H2 0 5 I) (q_move I I) (Aq 10 I (H2 0 5 I) (q_extract I I I) (Aq 11 I (H2 0 5 I) (q_extract I I I) (a_all1 12 (by kernel_rfl) I I (e_alloc I I I zeroValue135 ?_)))))
      intro bp
      refine cells_eq (show _ = nv0.c from I) (d_held (H2 1 6 I) (a_all1 13 (by kernel_rfl) I I (e_storeAgg I I Z135 I I I (NV.one _) (by show 0 + 5 ≤ 5; decide) (cells_eq (show Sep.splice _ 0 ((⟨s, L.r.nd⟩ : NV)).c = ((⟨s, L.r.nd⟩ : NV)).c from Sep.splice_all I) (d_held (H2 1 6 I) (Aq 14 I (H2 1 6 I) (q_assign I I) (a_nil (by kernel_rfl) (pull11 (pull11 (pull11 (pull11 (pull11 (pull11 (pull7 (pull11 (pull11 (pull11 (pull11 (pull11 ?_)))))))))))))))))))
      exact k_meet ((s, bp)) trivial (Sub.cons I (Sub.cons I (Sub.cons I (Sub.nil)))) (fun _ h => h)
    · refine e_alloc I I I zeroValue135 ?_
      intro bp
      refine cells_eq (show _ = nv0.c from I) (d_held (H2 1 2 I) (pull7 (pull7 (pull7 (pull7 (pull7 (pull7 (pull7 (pull7 (a_all1 8 (by kernel_rfl) I I (e_callH [_, _] (lnode h h2) I I I call116 I Tt ?_)))))))))))
      intro s _
      refine Pre.world (St _ _ (_ :: _ :: _ :: _ :: _ :: _ :: HQ.H (x))) Ih ?_
      refine d_held (H2 1 6 I) (Aq 9 I (H2 1 6 I) (q_move I I) (Aq 10 I (H2 1 6 I) (q_extract I I I) (Aq 11 I (H2 1 6 I) (q_extract I I I) (a_all1 13 (by kernel_rfl) I I (e_storeAgg I I Z135 I I I (NV.one _) (by show 0 + 5 ≤ 5; decide) (cells_eq (show Sep.splice _ 0 ((⟨s, L.r.nd⟩ : NV)).c = ((⟨s, L.r.nd⟩ : NV)).c from Sep.splice_all I) (d_held (H2 1 6 I) (Aq 14 I (H2 1 6 I) (q_assign I I) (a_nil (by kernel_rfl) (pull11 (pull11 (pull11 (pull11 (pull11 (pull11 (pull7 (pull11 (pull11 (pull11 (pull11 (pull11 ?_)))))))))))))))))))))
      exact k_meet ((s, bp)) trivial (Sub.cons I (Sub.cons I (Sub.cons I (Sub.nil)))) (fun _ h => h)
  · intro s bp _
    refine c_seq ?_
    refine c_meet2 (fun (s2 : N4) (bq : Nat) => [(0, ptV br), (1, ptV x.bh), (6, .pointer (some ⟨bp, 0, none⟩)), (8, .pointer (some ⟨bq, 0, none⟩))]) (fun (s2 : N4) (bq : Nat) => St w (dom (cellsE br 249 (rmC t 1 0 true false true 0) :: x.H)) (cellsE bp 135 (⟨s, L.r.nd⟩ : NV).c :: (nrows (⟨s, L.r.nd⟩ : NV) ++ (cellsE bq 135 (⟨s2, L.r.nd⟩ : NV).c :: (nrows (⟨s2, L.r.nd⟩ : NV) ++ (cellsE br 249 (rmC t 1 0 true false true 0) :: x.H)))))) (fun (s2 : N4) (bq : Nat) => True) ?_ ?_
    · refine c_any (fun w2 => (cellsE br 249 (rmC t 1 0 true false true 0)).at w2 ∧ (cellsE x.bh 91 x.cells).at w2) I St.drawn (Aq 0 I (H2 5 6 I) (q_move I I) (Aq 1 I (H2 5 6 I) (q_nilCheck I I) (Aq 2 I (H2 5 6 I) (q_fieldAddr I U91 I Z86 I I) (Aq 3 I (H2 5 6 I) (q_loadC I G86 I (fun _ h => h.2) I) (Aq 4 I (H2 5 6 I) (q_move I I) (Aq 5 I (H2 5 6 I) (q_nilCheck I I) (Aq 6 I (H2 5 6 I) (q_fieldAddr I U249 I Z3 I I) (Aq 7 I (H2 5 6 I) (q_loadC I G3 I (fun _ h => h.1) I) ?_))))))))
      refine a_all2 8 12 (by kernel_rfl) I I I I ?_ ?_ 
      · refine pull11 (pull11 (pull11 (pull11 (pull11 (pull11 (pull11 (pull11 (pull11 (pull11 (pull11 (pull11 (e_callH [_, _, _, _, _, _] (lnode h h2) I I I call116 I Tt ?_))))))))))))
        intro s2 _
        refine Pre.world (St _ _ (_ :: _ :: _ :: _ :: _ :: _ :: _ :: _ :: _ :: _ :: HQ.H (x))) Ih ?_
        refine d_held (H2 5 10 I) (Aq 9 I (H2 5 10 I) (q_move I I) (Aq 10 I (H2 5 10 I) (q_extract I I I) (Aq 11 I (H2 5 10 I) (q_extract I I I) (a_all1 12 (by kernel_rfl) I I (e_alloc I I I zeroValue135 ?_)))))
        intro bq
        refine cells_eq (show _ = nv0.c from I) (d_held (H2 6 11 I) (a_all1 13 (by kernel_rfl) I I (e_storeAgg I I Z135 I I I (NV.one _) (by show 0 + 5 ≤ 5; decide) (cells_eq (show Sep.splice _ 0 ((⟨s2, L.r.nd⟩ : NV)).c = ((⟨s2, L.r.nd⟩ : NV)).c from Sep.splice_all I) (d_held (H2 6 11 I) (Aq 14 I (H2 6 11 I) (q_assign I I) (a_nil (by kernel_rfl) (pull16 (pull16 (pull16 (pull16 (pull16 (pull16 (pull12 (pull16 (pull16 (pull16 (pull16 (pull11 (pull16 (pull16 (pull16 (pull16 ?_)))))))))))))))))))))))
        refine pull16 ?_
        exact k_meet ((s2, bq)) trivial (Sub.cons I (Sub.cons I (Sub.cons I (Sub.cons I (Sub.nil))))) (fun _ h => h)
      · refine e_alloc I I I zeroValue135 ?_
        intro bq
        refine cells_eq (show _ = nv0.c from I) (d_held (H2 6 7 I) (pull12 (pull12 (pull12 (pull12 (pull12 (pull12 (pull12 (pull12 (pull12 (pull12 (pull12 (pull12 (pull12 (a_all1 8 (by kernel_rfl) I I (e_callH [_, _, _, _, _, _, _] (lnode h h2) I I I call116 I Tt ?_))))))))))))))))
        intro s2 _
        refine Pre.world (St _ _ (_ :: _ :: _ :: _ :: _ :: _ :: _ :: _ :: _ :: _ :: _ :: HQ.H (x))) Ih ?_
        refine d_held (H2 6 11 I) (Aq 9 I (H2 6 11 I) (q_move I I) (Aq 10 I (H2 6 11 I) (q_extract I I I) (Aq 11 I (H2 6 11 I) (q_extract I I I) (a_all1 13 (by kernel_rfl) I I (e_storeAgg I I Z135 I I I (NV.one _) (by show 0 + 5 ≤ 5; decide) (cells_eq (show Sep.splice _ 0 ((⟨s2, L.r.nd⟩ : NV)).c = ((⟨s2, L.r.nd⟩ : NV)).c from Sep.splice_all I) (d_held (H2 6 11 I) (Aq 14 I (H2 6 11 I) (q_assign I I) (a_nil (by kernel_rfl) (pull16 (pull16 (pull16 (pull16 (pull16 (pull16 (pull12 (pull16 (pull16 (pull16 (pull16 (pull11 (pull16 (pull16 ?_)))))))))))))))))))))))
        refine pull16 (pull16 (pull16 ?_))
        exact k_meet ((s2, bq)) trivial (Sub.cons I (Sub.cons I (Sub.cons I (Sub.cons I (Sub.nil))))) (fun _ h => h)
    · intro s2 bq _
      refine Cs I (Ak I (c_seq (Cs I (Lm I (Lc I (Lfa U249 I Z3 I (Lo G3 10 I (Nk (c_block (c_seq (c_block (c_seq (c_block (c_seq (c_block (c_seq (c_block (c_seq (c_block (c_seq (c_block (c_seq (c_block ?_)))))))))))))))))))))))
      refine c_seq (c_block (c_seq (c_block (c_seq (c_block (c_seq (c_seq (Cs I (Lq I (q_eql I I I) (Ak I (Sb 55 true I (I) (c_true I (c_exit (k_then_exit (k_then_exit (k_block_exit (Kt (Cs I (Lm I (Lm I (Lq I (q_loadCAgg ((⟨s, L.r.nd⟩ : NV).c) I G135 Z135 I (Hat 0 I) (I) (I)) (Pre.fact (fun _ h => (h.rd 1 I).vlen) ?_))))))))))))))))))))))
      intro hvl
      refine pull10 (l_e I (e_call_11 (rmchoose br t _ (⟨s, L.r.nd⟩ : NV) (by rw [hnd]; rfl) (by have e1 : s.e.n = L.r.nd.es.length := hvl; show 2 ≤ s.e.n; rw [e1]; exact hlen)) I I I call138 I Tt ?_))
      intro _ _
      refine Nk (c_exit (k_block_other I (k_then_exit (k_block_other I (k_then_exit (k_block_other I (k_then_exit (k_block_other I (k_then_exit (k_block_other I (k_then_exit (k_block_other I (k_then_exit (k_block_other I (k_then_exit (k_block_other I (k_then_exit (k_block_other I (k_then_exit (k_block_exit (Ks (D4 [(0,O),(1,O),(2,O),(3,O),(4,O),(5,O),(6,O),(7,O),(8,O),(9,O),(10,W)] [10] [(_,O),(_,O),(_,O),(_,O),(_,O),(_,O),(_,O),(_,O),(_,O),(_,O),(_,W)] _ I I I I St.drawn Ih (Dm I ?_)))))))))))))))))))))))
      refine Dc I (Dfa U249 I Z3 I (Dq I (q_loadC I G3 I (Hat 0 I) I) (Dq I (q_eql I I I) (Dm I (Dc I (Dfa U249 I Z44 I (Dq I (q_loadC I G44 I (Hat 0 I) I) (Das I (d_t I (e_q I I (q_assign I I) (d_nil (Kt (c_ret (pull16 (pull16 (pull16 (pull16 (pull16 (pull16 (pull6 (pull16 (pull16 (pull16 ?_)))))))))))))))))))))))
      refine pull16 (pull16 (pull16 (pull16 (pull16 (pull16 (pull16 (drop0 (drop0 (drop0 (drop0 (drop0 (drop0 (drop0 (drop0 (drop0 (drop0 (r_many (rs := [.tmp 4, .tmp 5]) I I ?_)))))))))))))))))
      exact fun _ hh => ⟨(), rfl, trivial, hh⟩
theorem rs2 {x : HQ} {L : Lf} {B : Nat} (h : LH x L B) {t : Int} (ht : tkB t = true) (hmay : L.mayH t = true) (br : Nat) (h2 : L.r.st = 2) (hB : B + 1 ≤ 60000) (hl : t ∉ L.ld) (hc : L.cl = 0 ∨ L.ct = t) (h1 : L.cl ≤ 1) : Con Tryz.prog 88 [ptV br, ptV x.bh] (fun _ => True) (cellsE br 249 (rmC t 6 0 true false true 0) :: x.H) (fun y : HQ => .tuple #[.bool false, .int .i64 0]) (fun y => y.bh = x.bh ∧ LH y (L.claim t) (B + 1)) (fun y => cellsE br 249 (rmC t 7 0 true false true 0) :: y.H) := by
  intro w hE hH
  refine enter (n := 162) (vs := [ptV br, ptV x.bh]) (St w (dom (cellsE br 249 (rmC t 6 0 true false true 0) :: x.H)) (cellsE br 249 (rmC t 6 0 true false true 0) :: x.H)) func88 I I I (St.init hH) ?_
  refine Cs I (Las I (Ak I (c_seq (Cs I (Lm I (Lc I (Lfa U249 I Z3 I (Lo G3 0 I (Lq I (q_eql I I I) (Nk (Sb 15 false I (I) (c_false I (c_skip (Ks (Cs I (Lm I (Lm I (Lc I (Lfa U249 I Z3 I (Lo G3 0 I (l_e I (e_callH [_] (lmay h t) I I I call82 I Tt ?_))))))))))))))))))))))
  intro _ _
  refine Pre.world (St _ _ (_ :: HQ.H (x))) Ih ?_
  refine Sv' 25 (.bool true) I (by rw [hmay]) (Lq I (q_not I I) (Nk (Sb 26 false I (I) (c_false I (c_skip (Ks ?_))))))
  refine c_meet2 (fun (s : N4) (bp : Nat) => [(0, ptV br), (1, ptV x.bh), (6, .pointer (some ⟨bp, 0, none⟩))]) (fun (s : N4) (bp : Nat) => St w (dom (cellsE br 249 (rmC t 6 0 true false true 0) :: x.H)) (cellsE bp 135 (⟨s, L.r.nd⟩ : NV).c :: (nrows (⟨s, L.r.nd⟩ : NV) ++ (cellsE br 249 (rmC t 6 0 true false true 0) :: x.H)))) (fun (s : N4) (bp : Nat) => True) ?_ ?_
  · refine c_any (fun w2 => (cellsE br 249 (rmC t 6 0 true false true 0)).at w2 ∧ (cellsE x.bh 91 x.cells).at w2) I St.drawn (Aq 0 I (H2 0 1 I) (q_move I I) (Aq 1 I (H2 0 1 I) (q_nilCheck I I) (Aq 2 I (H2 0 1 I) (q_fieldAddr I U91 I Z86 I I) (Aq 3 I (H2 0 1 I) (q_loadC I G86 I (fun _ h => h.2) I) (Aq 4 I (H2 0 1 I) (q_move I I) (Aq 5 I (H2 0 1 I) (q_nilCheck I I) (Aq 6 I (H2 0 1 I) (q_fieldAddr I U249 I Z3 I I) (Aq 7 I (H2 0 1 I) (q_loadC I G3 I (fun _ h => h.1) I) ?_))))))))
    refine a_all2 8 12 (by kernel_rfl) I I I I ?_ ?_ 
    · refine pull6 (pull6 (pull6 (pull6 (pull6 (pull6 (pull6 (e_callH [_] (lnode h h2) I I I call116 I Tt ?_)))))))
      intro s _
      refine Pre.world (St _ _ (_ :: _ :: _ :: _ :: _ :: HQ.H (x))) Ih ?_
      refine d_held (H2 0 5 I) (Aq 9 I (H2 0 5 I) (q_move I I) (Aq 10 I (H2 0 5 I) (q_extract I I I) (Aq 11 I (H2 0 5 I) (q_extract I I I) (a_all1 12 (by kernel_rfl) I I (e_alloc I I I zeroValue135 ?_)))))
      intro bp
      refine cells_eq (show _ = nv0.c from I) (d_held (H2 1 6 I) (a_all1 13 (by kernel_rfl) I I (e_storeAgg I I Z135 I I I (NV.one _) (by show 0 + 5 ≤ 5; decide) (cells_eq (show Sep.splice _ 0 ((⟨s, L.r.nd⟩ : NV)).c = ((⟨s, L.r.nd⟩ : NV)).c from Sep.splice_all I) (d_held (H2 1 6 I) (Aq 14 I (H2 1 6 I) (q_assign I I) (a_nil (by kernel_rfl) (pull11 (pull11 (pull11 (pull11 (pull11 (pull11 (pull7 (pull11 (pull11 (pull11 (pull11 (pull11 ?_)))))))))))))))))))
      exact k_meet ((s, bp)) trivial (Sub.cons I (Sub.cons I (Sub.cons I (Sub.nil)))) (fun _ h => h)
    · refine e_alloc I I I zeroValue135 ?_
      intro bp
      refine cells_eq (show _ = nv0.c from I) (d_held (H2 1 2 I) (pull7 (pull7 (pull7 (pull7 (pull7 (pull7 (pull7 (pull7 (a_all1 8 (by kernel_rfl) I I (e_callH [_, _] (lnode h h2) I I I call116 I Tt ?_)))))))))))
      intro s _
      refine Pre.world (St _ _ (_ :: _ :: _ :: _ :: _ :: _ :: HQ.H (x))) Ih ?_
      refine d_held (H2 1 6 I) (Aq 9 I (H2 1 6 I) (q_move I I) (Aq 10 I (H2 1 6 I) (q_extract I I I) (Aq 11 I (H2 1 6 I) (q_extract I I I) (a_all1 13 (by kernel_rfl) I I (e_storeAgg I I Z135 I I I (NV.one _) (by show 0 + 5 ≤ 5; decide) (cells_eq (show Sep.splice _ 0 ((⟨s, L.r.nd⟩ : NV)).c = ((⟨s, L.r.nd⟩ : NV)).c from Sep.splice_all I) (d_held (H2 1 6 I) (Aq 14 I (H2 1 6 I) (q_assign I I) (a_nil (by kernel_rfl) (pull11 (pull11 (pull11 (pull11 (pull11 (pull11 (pull7 (pull11 (pull11 (pull11 (pull11 (pull11 ?_)))))))))))))))))))))
      exact k_meet ((s, bp)) trivial (Sub.cons I (Sub.cons I (Sub.cons I (Sub.nil)))) (fun _ h => h)
  · intro s bp _
    refine c_seq ?_
    refine c_meet2 (fun (s2 : N4) (bq : Nat) => [(0, ptV br), (1, ptV x.bh), (6, .pointer (some ⟨bp, 0, none⟩)), (8, .pointer (some ⟨bq, 0, none⟩))]) (fun (s2 : N4) (bq : Nat) => St w (dom (cellsE br 249 (rmC t 6 0 true false true 0) :: x.H)) (cellsE bp 135 (⟨s, L.r.nd⟩ : NV).c :: (nrows (⟨s, L.r.nd⟩ : NV) ++ (cellsE bq 135 (⟨s2, L.r.nd⟩ : NV).c :: (nrows (⟨s2, L.r.nd⟩ : NV) ++ (cellsE br 249 (rmC t 6 0 true false true 0) :: x.H)))))) (fun (s2 : N4) (bq : Nat) => True) ?_ ?_
    · refine c_any (fun w2 => (cellsE br 249 (rmC t 6 0 true false true 0)).at w2 ∧ (cellsE x.bh 91 x.cells).at w2) I St.drawn (Aq 0 I (H2 5 6 I) (q_move I I) (Aq 1 I (H2 5 6 I) (q_nilCheck I I) (Aq 2 I (H2 5 6 I) (q_fieldAddr I U91 I Z86 I I) (Aq 3 I (H2 5 6 I) (q_loadC I G86 I (fun _ h => h.2) I) (Aq 4 I (H2 5 6 I) (q_move I I) (Aq 5 I (H2 5 6 I) (q_nilCheck I I) (Aq 6 I (H2 5 6 I) (q_fieldAddr I U249 I Z3 I I) (Aq 7 I (H2 5 6 I) (q_loadC I G3 I (fun _ h => h.1) I) ?_))))))))
      refine a_all2 8 12 (by kernel_rfl) I I I I ?_ ?_ 
      · refine pull11 (pull11 (pull11 (pull11 (pull11 (pull11 (pull11 (pull11 (pull11 (pull11 (pull11 (pull11 (e_callH [_, _, _, _, _, _] (lnode h h2) I I I call116 I Tt ?_))))))))))))
        intro s2 _
        refine Pre.world (St _ _ (_ :: _ :: _ :: _ :: _ :: _ :: _ :: _ :: _ :: _ :: HQ.H (x))) Ih ?_
        refine d_held (H2 5 10 I) (Aq 9 I (H2 5 10 I) (q_move I I) (Aq 10 I (H2 5 10 I) (q_extract I I I) (Aq 11 I (H2 5 10 I) (q_extract I I I) (a_all1 12 (by kernel_rfl) I I (e_alloc I I I zeroValue135 ?_)))))
        intro bq
        refine cells_eq (show _ = nv0.c from I) (d_held (H2 6 11 I) (a_all1 13 (by kernel_rfl) I I (e_storeAgg I I Z135 I I I (NV.one _) (by show 0 + 5 ≤ 5; decide) (cells_eq (show Sep.splice _ 0 ((⟨s2, L.r.nd⟩ : NV)).c = ((⟨s2, L.r.nd⟩ : NV)).c from Sep.splice_all I) (d_held (H2 6 11 I) (Aq 14 I (H2 6 11 I) (q_assign I I) (a_nil (by kernel_rfl) (pull16 (pull16 (pull16 (pull16 (pull16 (pull16 (pull12 (pull16 (pull16 (pull16 (pull16 (pull11 (pull16 (pull16 (pull16 (pull16 ?_)))))))))))))))))))))))
        refine pull16 ?_
        exact k_meet ((s2, bq)) trivial (Sub.cons I (Sub.cons I (Sub.cons I (Sub.cons I (Sub.nil))))) (fun _ h => h)
      · refine e_alloc I I I zeroValue135 ?_
        intro bq
        refine cells_eq (show _ = nv0.c from I) (d_held (H2 6 7 I) (pull12 (pull12 (pull12 (pull12 (pull12 (pull12 (pull12 (pull12 (pull12 (pull12 (pull12 (pull12 (pull12 (a_all1 8 (by kernel_rfl) I I (e_callH [_, _, _, _, _, _, _] (lnode h h2) I I I call116 I Tt ?_))))))))))))))))
        intro s2 _
        refine Pre.world (St _ _ (_ :: _ :: _ :: _ :: _ :: _ :: _ :: _ :: _ :: _ :: _ :: HQ.H (x))) Ih ?_
        refine d_held (H2 6 11 I) (Aq 9 I (H2 6 11 I) (q_move I I) (Aq 10 I (H2 6 11 I) (q_extract I I I) (Aq 11 I (H2 6 11 I) (q_extract I I I) (a_all1 13 (by kernel_rfl) I I (e_storeAgg I I Z135 I I I (NV.one _) (by show 0 + 5 ≤ 5; decide) (cells_eq (show Sep.splice _ 0 ((⟨s2, L.r.nd⟩ : NV)).c = ((⟨s2, L.r.nd⟩ : NV)).c from Sep.splice_all I) (d_held (H2 6 11 I) (Aq 14 I (H2 6 11 I) (q_assign I I) (a_nil (by kernel_rfl) (pull16 (pull16 (pull16 (pull16 (pull16 (pull16 (pull12 (pull16 (pull16 (pull16 (pull16 (pull11 (pull16 (pull16 ?_)))))))))))))))))))))))
        refine pull16 (pull16 (pull16 ?_))
        exact k_meet ((s2, bq)) trivial (Sub.cons I (Sub.cons I (Sub.cons I (Sub.cons I (Sub.nil))))) (fun _ h => h)
    · intro s2 bq _
      refine Cs I (Ak I (c_seq (Cs I (Lm I (Lc I (Lfa U249 I Z3 I (Lo G3 10 I (Nk (c_block (c_seq (c_block (c_seq (c_block (c_seq (c_block (c_seq (c_block (c_seq (c_block (c_seq (c_block (c_seq (c_block ?_)))))))))))))))))))))))
      refine c_seq (c_block (c_seq (c_block (c_seq (c_block (c_seq (c_seq (Cs I (Lq I (q_eql I I I) (Ak I (Sb 55 false I (I) (c_false I (c_skip (Ks (Cs I (Lq I (q_eql I I I) (Ak I (Sb 57 false I (I) (c_false I (c_skip (Ks (Cs I (Lq I (q_eql I I I) ?_)))))))))))))))))))))))
      refine Ak I (Sb 59 false I (I) (c_false I (c_skip (Ks (Cs I (Lq I (q_eql I I I) (Ak I (Sb 61 false I (I) (c_false I (c_skip (Ks (Cs I (Lq I (q_eql I I I) (Ak I (Sb 63 false I (I) (c_false I (c_skip (Ks (Cs I (Lq I (q_eql I I I) (Ak I (Sb 65 true I (I) (c_true I ?_)))))))))))))))))))))))
      refine c_exit (k_then_exit (k_then_exit (k_block_other I (k_then_exit (k_block_other I (k_then_exit (k_block_other I (k_then_exit (k_block_other I (k_then_exit (k_block_other I (k_then_exit (k_block_exit (Kt (Cr I (Las I (l_nil (k_block (Kt (Cs I (Lm I (Lm I (Lm I ?_)))))))))))))))))))))))
      refine pull16 (pull16 (pull16 (pull16 (pull16 (pull16 (pull16 (pull16 (pull16 (pull16 (pull16 (pull16 (pull16 (pull16 (pull16 (pull16 (pull16 (l_e I (e_callH [_, _, _, _, _, _, _, _, _, _] (rmclaim h ht br 6 7 hB hl (by rw [h2]; decide) hc h1) I I I call140 I Tt ?_))))))))))))))))))
      rintro y ⟨hbh, hy⟩
      refine Pre.world (St _ _ (_ :: _ :: _ :: _ :: _ :: _ :: _ :: _ :: _ :: _ :: _ :: HQ.H y)) Ih ?_
      refine Nk (c_exit (k_block_other I (k_then_exit (k_block_other I (k_then_exit (k_block_other I (k_then_exit (k_block_exit (Ks (D4 [(0,O),(1,O),(2,O),(3,O),(4,O),(5,O),(6,O),(7,O),(8,O),(9,O),(10,W)] [10] [(_,O),(_,O),(_,O),(_,O),(_,O),(_,O),(_,O),(_,O),(_,O),(_,O),(_,W)] _ I I I I St.drawn Ih (Dm I (Dc I (Dfa U249 I Z3 I (Dq I (q_loadC I G3 I (Hat 10 I) I) (Dq I (q_eql I I I) (Dm I (Dc I (Dfa U249 I Z44 I (Dq I (q_loadC I G44 I (Hat 10 I) I) (Das I (d_t I (e_q I I (q_assign I I) (d_nil ?_)))))))))))))))))))))))
      refine Kt (c_ret (pull16 (pull16 (pull16 (pull16 (pull16 (pull16 (pull16 (pull16 (pull16 (pull16 (pull16 (pull16 (pull16 (pull16 (pull16 (pull16 (pull16 (drop0 (drop0 (drop0 (drop0 (drop0 ?_)))))))))))))))))))))))
      refine drop0 (drop0 (drop0 (drop0 (drop0 (r_many (rs := [.tmp 4, .tmp 5]) I I ?_)))))
      exact fun _ hh => ⟨y, rfl, ⟨hbh, hy⟩, hh⟩
theorem rs3 {x : HQ} {L : Lf} {B : Nat} (h : LH x L B) {t : Int} (ht : tkB t = true) (hmay : L.mayH t = true) (br : Nat) (h2 : L.r.st = 2) (hB : B + 1 ≤ 60000) (hl : t ∉ L.ld) (hc : L.cl = 0 ∨ L.ct = t) (h1 : L.cl ≤ 1) : Con Tryz.prog 88 [ptV br, ptV x.bh] (fun _ => True) (cellsE br 249 (rmC t 7 0 true false true 0) :: x.H) (fun y : HQ => .tuple #[.bool false, .int .i64 0]) (fun y => y.bh = x.bh ∧ LH y (L.claim t) (B + 1)) (fun y => cellsE br 249 (rmC t 10 0 true false true 0) :: y.H) := by
  intro w hE hH
  refine enter (n := 162) (vs := [ptV br, ptV x.bh]) (St w (dom (cellsE br 249 (rmC t 7 0 true false true 0) :: x.H)) (cellsE br 249 (rmC t 7 0 true false true 0) :: x.H)) func88 I I I (St.init hH) ?_
  refine Cs I (Las I (Ak I (c_seq (Cs I (Lm I (Lc I (Lfa U249 I Z3 I (Lo G3 0 I (Lq I (q_eql I I I) (Nk (Sb 15 false I (I) (c_false I (c_skip (Ks (Cs I (Lm I (Lm I (Lc I (Lfa U249 I Z3 I (Lo G3 0 I (l_e I (e_callH [_] (lmay h t) I I I call82 I Tt ?_))))))))))))))))))))))
  intro _ _
  refine Pre.world (St _ _ (_ :: HQ.H (x))) Ih ?_
  refine Sv' 25 (.bool true) I (by rw [hmay]) (Lq I (q_not I I) (Nk (Sb 26 false I (I) (c_false I (c_skip (Ks ?_))))))
  refine c_meet2 (fun (s : N4) (bp : Nat) => [(0, ptV br), (1, ptV x.bh), (6, .pointer (some ⟨bp, 0, none⟩))]) (fun (s : N4) (bp : Nat) => St w (dom (cellsE br 249 (rmC t 7 0 true false true 0) :: x.H)) (cellsE bp 135 (⟨s, L.r.nd⟩ : NV).c :: (nrows (⟨s, L.r.nd⟩ : NV) ++ (cellsE br 249 (rmC t 7 0 true false true 0) :: x.H)))) (fun (s : N4) (bp : Nat) => True) ?_ ?_
  · refine c_any (fun w2 => (cellsE br 249 (rmC t 7 0 true false true 0)).at w2 ∧ (cellsE x.bh 91 x.cells).at w2) I St.drawn (Aq 0 I (H2 0 1 I) (q_move I I) (Aq 1 I (H2 0 1 I) (q_nilCheck I I) (Aq 2 I (H2 0 1 I) (q_fieldAddr I U91 I Z86 I I) (Aq 3 I (H2 0 1 I) (q_loadC I G86 I (fun _ h => h.2) I) (Aq 4 I (H2 0 1 I) (q_move I I) (Aq 5 I (H2 0 1 I) (q_nilCheck I I) (Aq 6 I (H2 0 1 I) (q_fieldAddr I U249 I Z3 I I) (Aq 7 I (H2 0 1 I) (q_loadC I G3 I (fun _ h => h.1) I) ?_))))))))
    refine a_all2 8 12 (by kernel_rfl) I I I I ?_ ?_ 
    · refine pull6 (pull6 (pull6 (pull6 (pull6 (pull6 (pull6 (e_callH [_] (lnode h h2) I I I call116 I Tt ?_)))))))
      intro s _
      refine Pre.world (St _ _ (_ :: _ :: _ :: _ :: _ :: HQ.H (x))) Ih ?_
      refine d_held (H2 0 5 I) (Aq 9 I (H2 0 5 I) (q_move I I) (Aq 10 I (H2 0 5 I) (q_extract I I I) (Aq 11 I (H2 0 5 I) (q_extract I I I) (a_all1 12 (by kernel_rfl) I I (e_alloc I I I zeroValue135 ?_)))))
      intro bp
      refine cells_eq (show _ = nv0.c from I) (d_held (H2 1 6 I) (a_all1 13 (by kernel_rfl) I I (e_storeAgg I I Z135 I I I (NV.one _) (by show 0 + 5 ≤ 5; decide) (cells_eq (show Sep.splice _ 0 ((⟨s, L.r.nd⟩ : NV)).c = ((⟨s, L.r.nd⟩ : NV)).c from Sep.splice_all I) (d_held (H2 1 6 I) (Aq 14 I (H2 1 6 I) (q_assign I I) (a_nil (by kernel_rfl) (pull11 (pull11 (pull11 (pull11 (pull11 (pull11 (pull7 (pull11 (pull11 (pull11 (pull11 (pull11 ?_)))))))))))))))))))
      exact k_meet ((s, bp)) trivial (Sub.cons I (Sub.cons I (Sub.cons I (Sub.nil)))) (fun _ h => h)
    · refine e_alloc I I I zeroValue135 ?_
      intro bp
      refine cells_eq (show _ = nv0.c from I) (d_held (H2 1 2 I) (pull7 (pull7 (pull7 (pull7 (pull7 (pull7 (pull7 (pull7 (a_all1 8 (by kernel_rfl) I I (e_callH [_, _] (lnode h h2) I I I call116 I Tt ?_)))))))))))
      intro s _
      refine Pre.world (St _ _ (_ :: _ :: _ :: _ :: _ :: _ :: HQ.H (x))) Ih ?_
      refine d_held (H2 1 6 I) (Aq 9 I (H2 1 6 I) (q_move I I) (Aq 10 I (H2 1 6 I) (q_extract I I I) (Aq 11 I (H2 1 6 I) (q_extract I I I) (a_all1 13 (by kernel_rfl) I I (e_storeAgg I I Z135 I I I (NV.one _) (by show 0 + 5 ≤ 5; decide) (cells_eq (show Sep.splice _ 0 ((⟨s, L.r.nd⟩ : NV)).c = ((⟨s, L.r.nd⟩ : NV)).c from Sep.splice_all I) (d_held (H2 1 6 I) (Aq 14 I (H2 1 6 I) (q_assign I I) (a_nil (by kernel_rfl) (pull11 (pull11 (pull11 (pull11 (pull11 (pull11 (pull7 (pull11 (pull11 (pull11 (pull11 (pull11 ?_)))))))))))))))))))))
      exact k_meet ((s, bp)) trivial (Sub.cons I (Sub.cons I (Sub.cons I (Sub.nil)))) (fun _ h => h)
  · intro s bp _
    refine c_seq ?_
    refine c_meet2 (fun (s2 : N4) (bq : Nat) => [(0, ptV br), (1, ptV x.bh), (6, .pointer (some ⟨bp, 0, none⟩)), (8, .pointer (some ⟨bq, 0, none⟩))]) (fun (s2 : N4) (bq : Nat) => St w (dom (cellsE br 249 (rmC t 7 0 true false true 0) :: x.H)) (cellsE bp 135 (⟨s, L.r.nd⟩ : NV).c :: (nrows (⟨s, L.r.nd⟩ : NV) ++ (cellsE bq 135 (⟨s2, L.r.nd⟩ : NV).c :: (nrows (⟨s2, L.r.nd⟩ : NV) ++ (cellsE br 249 (rmC t 7 0 true false true 0) :: x.H)))))) (fun (s2 : N4) (bq : Nat) => True) ?_ ?_
    · refine c_any (fun w2 => (cellsE br 249 (rmC t 7 0 true false true 0)).at w2 ∧ (cellsE x.bh 91 x.cells).at w2) I St.drawn (Aq 0 I (H2 5 6 I) (q_move I I) (Aq 1 I (H2 5 6 I) (q_nilCheck I I) (Aq 2 I (H2 5 6 I) (q_fieldAddr I U91 I Z86 I I) (Aq 3 I (H2 5 6 I) (q_loadC I G86 I (fun _ h => h.2) I) (Aq 4 I (H2 5 6 I) (q_move I I) (Aq 5 I (H2 5 6 I) (q_nilCheck I I) (Aq 6 I (H2 5 6 I) (q_fieldAddr I U249 I Z3 I I) (Aq 7 I (H2 5 6 I) (q_loadC I G3 I (fun _ h => h.1) I) ?_))))))))
      refine a_all2 8 12 (by kernel_rfl) I I I I ?_ ?_ 
      · refine pull11 (pull11 (pull11 (pull11 (pull11 (pull11 (pull11 (pull11 (pull11 (pull11 (pull11 (pull11 (e_callH [_, _, _, _, _, _] (lnode h h2) I I I call116 I Tt ?_))))))))))))
        intro s2 _
        refine Pre.world (St _ _ (_ :: _ :: _ :: _ :: _ :: _ :: _ :: _ :: _ :: _ :: HQ.H (x))) Ih ?_
        refine d_held (H2 5 10 I) (Aq 9 I (H2 5 10 I) (q_move I I) (Aq 10 I (H2 5 10 I) (q_extract I I I) (Aq 11 I (H2 5 10 I) (q_extract I I I) (a_all1 12 (by kernel_rfl) I I (e_alloc I I I zeroValue135 ?_)))))
        intro bq
        refine cells_eq (show _ = nv0.c from I) (d_held (H2 6 11 I) (a_all1 13 (by kernel_rfl) I I (e_storeAgg I I Z135 I I I (NV.one _) (by show 0 + 5 ≤ 5; decide) (cells_eq (show Sep.splice _ 0 ((⟨s2, L.r.nd⟩ : NV)).c = ((⟨s2, L.r.nd⟩ : NV)).c from Sep.splice_all I) (d_held (H2 6 11 I) (Aq 14 I (H2 6 11 I) (q_assign I I) (a_nil (by kernel_rfl) (pull16 (pull16 (pull16 (pull16 (pull16 (pull16 (pull12 (pull16 (pull16 (pull16 (pull16 (pull11 (pull16 (pull16 (pull16 (pull16 ?_)))))))))))))))))))))))
        refine pull16 ?_
        exact k_meet ((s2, bq)) trivial (Sub.cons I (Sub.cons I (Sub.cons I (Sub.cons I (Sub.nil))))) (fun _ h => h)
      · refine e_alloc I I I zeroValue135 ?_
        intro bq
        refine cells_eq (show _ = nv0.c from I) (d_held (H2 6 7 I) (pull12 (pull12 (pull12 (pull12 (pull12 (pull12 (pull12 (pull12 (pull12 (pull12 (pull12 (pull12 (pull12 (a_all1 8 (by kernel_rfl) I I (e_callH [_, _, _, _, _, _, _] (lnode h h2) I I I call116 I Tt ?_))))))))))))))))
        intro s2 _
        refine Pre.world (St _ _ (_ :: _ :: _ :: _ :: _ :: _ :: _ :: _ :: _ :: _ :: _ :: HQ.H (x))) Ih ?_
        refine d_held (H2 6 11 I) (Aq 9 I (H2 6 11 I) (q_move I I) (Aq 10 I (H2 6 11 I) (q_extract I I I) (Aq 11 I (H2 6 11 I) (q_extract I I I) (a_all1 13 (by kernel_rfl) I I (e_storeAgg I I Z135 I I I (NV.one _) (by show 0 + 5 ≤ 5; decide) (cells_eq (show Sep.splice _ 0 ((⟨s2, L.r.nd⟩ : NV)).c = ((⟨s2, L.r.nd⟩ : NV)).c from Sep.splice_all I) (d_held (H2 6 11 I) (Aq 14 I (H2 6 11 I) (q_assign I I) (a_nil (by kernel_rfl) (pull16 (pull16 (pull16 (pull16 (pull16 (pull16 (pull12 (pull16 (pull16 (pull16 (pull16 (pull11 (pull16 (pull16 ?_)))))))))))))))))))))))
        refine pull16 (pull16 (pull16 ?_))
        exact k_meet ((s2, bq)) trivial (Sub.cons I (Sub.cons I (Sub.cons I (Sub.cons I (Sub.nil))))) (fun _ h => h)
    · intro s2 bq _
      refine Cs I (Ak I (c_seq (Cs I (Lm I (Lc I (Lfa U249 I Z3 I (Lo G3 10 I (Nk (c_block (c_seq (c_block (c_seq (c_block (c_seq (c_block (c_seq (c_block (c_seq (c_block (c_seq (c_block (c_seq (c_block ?_)))))))))))))))))))))))
      refine c_seq (c_block (c_seq (c_block (c_seq (c_block (c_seq (c_seq (Cs I (Lq I (q_eql I I I) (Ak I (Sb 55 false I (I) (c_false I (c_skip (Ks (Cs I (Lq I (q_eql I I I) (Ak I (Sb 57 false I (I) (c_false I (c_skip (Ks (Cs I (Lq I (q_eql I I I) ?_)))))))))))))))))))))))
      refine Ak I (Sb 59 false I (I) (c_false I (c_skip (Ks (Cs I (Lq I (q_eql I I I) (Ak I (Sb 61 false I (I) (c_false I (c_skip (Ks (Cs I (Lq I (q_eql I I I) (Ak I (Sb 63 false I (I) (c_false I (c_skip (Ks (Cs I (Lq I (q_eql I I I) (Ak I (Sb 65 false I (I) (c_false I ?_)))))))))))))))))))))))
      refine c_skip (Ks (Cs I (Lq I (q_eql I I I) (Ak I (Sb 67 true I (I) (c_true I (c_exit (k_then_exit (k_then_exit (k_block_other I (k_then_exit (k_block_other I (k_then_exit (k_block_other I (k_then_exit (k_block_other I (k_then_exit (k_block_other I (k_then_exit (k_block_other I (k_then_exit (k_block_exit (Kt ?_)))))))))))))))))))))))
      refine Cs I (Lm I (Lm I (Lm I (pull16 (pull16 (pull16 (pull16 (pull16 (pull16 (pull16 (pull16 (pull16 (pull16 (pull16 (pull16 (pull16 (pull16 (pull16 (pull16 (pull16 (l_e I (e_callH [_, _, _, _, _, _, _, _, _, _] (rmclaim h ht br 7 10 hB hl (by rw [h2]; decide) hc h1) I I I call140 I Tt ?_))))))))))))))))))))))
      rintro y ⟨hbh, hy⟩
      refine Pre.world (St _ _ (_ :: _ :: _ :: _ :: _ :: _ :: _ :: _ :: _ :: _ :: _ :: HQ.H y)) Ih ?_
      refine Nk (c_exit (k_block_other I (k_then_exit (k_block_other I (k_then_exit (k_block_other I (k_then_exit (k_block_exit (Ks (D4 [(0,O),(1,O),(2,O),(3,O),(4,O),(5,O),(6,O),(7,O),(8,O),(9,O),(10,W)] [10] [(_,O),(_,O),(_,O),(_,O),(_,O),(_,O),(_,O),(_,O),(_,O),(_,O),(_,W)] _ I I I I St.drawn Ih (Dm I (Dc I (Dfa U249 I Z3 I (Dq I (q_loadC I G3 I (Hat 10 I) I) (Dq I (q_eql I I I) (Dm I (Dc I (Dfa U249 I Z44 I (Dq I (q_loadC I G44 I (Hat 10 I) I) (Das I (d_t I (e_q I I (q_assign I I) (d_nil ?_)))))))))))))))))))))))
      refine Kt (c_ret (pull16 (pull16 (pull16 (pull16 (pull16 (pull16 (pull16 (pull16 (pull16 (pull16 (pull16 (pull16 (pull16 (pull16 (pull16 (pull16 (pull16 (drop0 (drop0 (drop0 (drop0 (drop0 ?_)))))))))))))))))))))))
      refine drop0 (drop0 (drop0 (drop0 (drop0 (r_many (rs := [.tmp 4, .tmp 5]) I I ?_)))))
      exact fun _ hh => ⟨y, rfl, ⟨hbh, hy⟩, hh⟩
theorem rs4 {x : HQ} {L : Lf} {B : Nat} (h : LH x L B) {t : Int} (ht : tkB t = true) (hmay : L.mayH t = true) (br : Nat) (h2 : L.r.st = 2) (hcl : L.cl = 2) (hct : L.ct = t) (hls : L.s.left < 2) : Con Tryz.prog 88 [ptV br, ptV x.bh] (fun _ => True) (cellsE br 249 (rmC t 10 0 true false true 0) :: x.H) (fun y : HQ => .tuple #[.bool true, .int .i64 3]) (fun y => y.bh = x.bh ∧ LH y L.give B) (fun y => cellsE br 249 (rmC t 11 0 false false true 3) :: y.H) := by
  intro w hE hH
  refine enter (n := 162) (vs := [ptV br, ptV x.bh]) (St w (dom (cellsE br 249 (rmC t 10 0 true false true 0) :: x.H)) (cellsE br 249 (rmC t 10 0 true false true 0) :: x.H)) func88 I I I (St.init hH) ?_
  refine Cs I (Las I (Ak I (c_seq (Cs I (Lm I (Lc I (Lfa U249 I Z3 I (Lo G3 0 I (Lq I (q_eql I I I) (Nk (Sb 15 false I (I) (c_false I (c_skip (Ks (Cs I (Lm I (Lm I (Lc I (Lfa U249 I Z3 I (Lo G3 0 I (l_e I (e_callH [_] (lmay h t) I I I call82 I Tt ?_))))))))))))))))))))))
  intro _ _
  refine Pre.world (St _ _ (_ :: HQ.H (x))) Ih ?_
  refine Sv' 25 (.bool true) I (by rw [hmay]) (Lq I (q_not I I) (Nk (Sb 26 false I (I) (c_false I (c_skip (Ks ?_))))))
  refine c_meet2 (fun (s : N4) (bp : Nat) => [(0, ptV br), (1, ptV x.bh), (6, .pointer (some ⟨bp, 0, none⟩))]) (fun (s : N4) (bp : Nat) => St w (dom (cellsE br 249 (rmC t 10 0 true false true 0) :: x.H)) (cellsE bp 135 (⟨s, L.r.nd⟩ : NV).c :: (nrows (⟨s, L.r.nd⟩ : NV) ++ (cellsE br 249 (rmC t 10 0 true false true 0) :: x.H)))) (fun (s : N4) (bp : Nat) => True) ?_ ?_
  · refine c_any (fun w2 => (cellsE br 249 (rmC t 10 0 true false true 0)).at w2 ∧ (cellsE x.bh 91 x.cells).at w2) I St.drawn (Aq 0 I (H2 0 1 I) (q_move I I) (Aq 1 I (H2 0 1 I) (q_nilCheck I I) (Aq 2 I (H2 0 1 I) (q_fieldAddr I U91 I Z86 I I) (Aq 3 I (H2 0 1 I) (q_loadC I G86 I (fun _ h => h.2) I) (Aq 4 I (H2 0 1 I) (q_move I I) (Aq 5 I (H2 0 1 I) (q_nilCheck I I) (Aq 6 I (H2 0 1 I) (q_fieldAddr I U249 I Z3 I I) (Aq 7 I (H2 0 1 I) (q_loadC I G3 I (fun _ h => h.1) I) ?_))))))))
    refine a_all2 8 12 (by kernel_rfl) I I I I ?_ ?_ 
    · refine pull6 (pull6 (pull6 (pull6 (pull6 (pull6 (pull6 (e_callH [_] (lnode h h2) I I I call116 I Tt ?_)))))))
      intro s _
      refine Pre.world (St _ _ (_ :: _ :: _ :: _ :: _ :: HQ.H (x))) Ih ?_
      refine d_held (H2 0 5 I) (Aq 9 I (H2 0 5 I) (q_move I I) (Aq 10 I (H2 0 5 I) (q_extract I I I) (Aq 11 I (H2 0 5 I) (q_extract I I I) (a_all1 12 (by kernel_rfl) I I (e_alloc I I I zeroValue135 ?_)))))
      intro bp
      refine cells_eq (show _ = nv0.c from I) (d_held (H2 1 6 I) (a_all1 13 (by kernel_rfl) I I (e_storeAgg I I Z135 I I I (NV.one _) (by show 0 + 5 ≤ 5; decide) (cells_eq (show Sep.splice _ 0 ((⟨s, L.r.nd⟩ : NV)).c = ((⟨s, L.r.nd⟩ : NV)).c from Sep.splice_all I) (d_held (H2 1 6 I) (Aq 14 I (H2 1 6 I) (q_assign I I) (a_nil (by kernel_rfl) (pull11 (pull11 (pull11 (pull11 (pull11 (pull11 (pull7 (pull11 (pull11 (pull11 (pull11 (pull11 ?_)))))))))))))))))))
      exact k_meet ((s, bp)) trivial (Sub.cons I (Sub.cons I (Sub.cons I (Sub.nil)))) (fun _ h => h)
    · refine e_alloc I I I zeroValue135 ?_
      intro bp
      refine cells_eq (show _ = nv0.c from I) (d_held (H2 1 2 I) (pull7 (pull7 (pull7 (pull7 (pull7 (pull7 (pull7 (pull7 (a_all1 8 (by kernel_rfl) I I (e_callH [_, _] (lnode h h2) I I I call116 I Tt ?_)))))))))))
      intro s _
      refine Pre.world (St _ _ (_ :: _ :: _ :: _ :: _ :: _ :: HQ.H (x))) Ih ?_
      refine d_held (H2 1 6 I) (Aq 9 I (H2 1 6 I) (q_move I I) (Aq 10 I (H2 1 6 I) (q_extract I I I) (Aq 11 I (H2 1 6 I) (q_extract I I I) (a_all1 13 (by kernel_rfl) I I (e_storeAgg I I Z135 I I I (NV.one _) (by show 0 + 5 ≤ 5; decide) (cells_eq (show Sep.splice _ 0 ((⟨s, L.r.nd⟩ : NV)).c = ((⟨s, L.r.nd⟩ : NV)).c from Sep.splice_all I) (d_held (H2 1 6 I) (Aq 14 I (H2 1 6 I) (q_assign I I) (a_nil (by kernel_rfl) (pull11 (pull11 (pull11 (pull11 (pull11 (pull11 (pull7 (pull11 (pull11 (pull11 (pull11 (pull11 ?_)))))))))))))))))))))
      exact k_meet ((s, bp)) trivial (Sub.cons I (Sub.cons I (Sub.cons I (Sub.nil)))) (fun _ h => h)
  · intro s bp _
    refine c_seq ?_
    refine c_meet2 (fun (s2 : N4) (bq : Nat) => [(0, ptV br), (1, ptV x.bh), (6, .pointer (some ⟨bp, 0, none⟩)), (8, .pointer (some ⟨bq, 0, none⟩))]) (fun (s2 : N4) (bq : Nat) => St w (dom (cellsE br 249 (rmC t 10 0 true false true 0) :: x.H)) (cellsE bp 135 (⟨s, L.r.nd⟩ : NV).c :: (nrows (⟨s, L.r.nd⟩ : NV) ++ (cellsE bq 135 (⟨s2, L.r.nd⟩ : NV).c :: (nrows (⟨s2, L.r.nd⟩ : NV) ++ (cellsE br 249 (rmC t 10 0 true false true 0) :: x.H)))))) (fun (s2 : N4) (bq : Nat) => True) ?_ ?_
    · refine c_any (fun w2 => (cellsE br 249 (rmC t 10 0 true false true 0)).at w2 ∧ (cellsE x.bh 91 x.cells).at w2) I St.drawn (Aq 0 I (H2 5 6 I) (q_move I I) (Aq 1 I (H2 5 6 I) (q_nilCheck I I) (Aq 2 I (H2 5 6 I) (q_fieldAddr I U91 I Z86 I I) (Aq 3 I (H2 5 6 I) (q_loadC I G86 I (fun _ h => h.2) I) (Aq 4 I (H2 5 6 I) (q_move I I) (Aq 5 I (H2 5 6 I) (q_nilCheck I I) (Aq 6 I (H2 5 6 I) (q_fieldAddr I U249 I Z3 I I) (Aq 7 I (H2 5 6 I) (q_loadC I G3 I (fun _ h => h.1) I) ?_))))))))
      refine a_all2 8 12 (by kernel_rfl) I I I I ?_ ?_ 
      · refine pull11 (pull11 (pull11 (pull11 (pull11 (pull11 (pull11 (pull11 (pull11 (pull11 (pull11 (pull11 (e_callH [_, _, _, _, _, _] (lnode h h2) I I I call116 I Tt ?_))))))))))))
        intro s2 _
        refine Pre.world (St _ _ (_ :: _ :: _ :: _ :: _ :: _ :: _ :: _ :: _ :: _ :: HQ.H (x))) Ih ?_
        refine d_held (H2 5 10 I) (Aq 9 I (H2 5 10 I) (q_move I I) (Aq 10 I (H2 5 10 I) (q_extract I I I) (Aq 11 I (H2 5 10 I) (q_extract I I I) (a_all1 12 (by kernel_rfl) I I (e_alloc I I I zeroValue135 ?_)))))
        intro bq
        refine cells_eq (show _ = nv0.c from I) (d_held (H2 6 11 I) (a_all1 13 (by kernel_rfl) I I (e_storeAgg I I Z135 I I I (NV.one _) (by show 0 + 5 ≤ 5; decide) (cells_eq (show Sep.splice _ 0 ((⟨s2, L.r.nd⟩ : NV)).c = ((⟨s2, L.r.nd⟩ : NV)).c from Sep.splice_all I) (d_held (H2 6 11 I) (Aq 14 I (H2 6 11 I) (q_assign I I) (a_nil (by kernel_rfl) (pull16 (pull16 (pull16 (pull16 (pull16 (pull16 (pull12 (pull16 (pull16 (pull16 (pull16 (pull11 (pull16 (pull16 (pull16 (pull16 ?_)))))))))))))))))))))))
        refine pull16 ?_
        exact k_meet ((s2, bq)) trivial (Sub.cons I (Sub.cons I (Sub.cons I (Sub.cons I (Sub.nil))))) (fun _ h => h)
      · refine e_alloc I I I zeroValue135 ?_
        intro bq
        refine cells_eq (show _ = nv0.c from I) (d_held (H2 6 7 I) (pull12 (pull12 (pull12 (pull12 (pull12 (pull12 (pull12 (pull12 (pull12 (pull12 (pull12 (pull12 (pull12 (a_all1 8 (by kernel_rfl) I I (e_callH [_, _, _, _, _, _, _] (lnode h h2) I I I call116 I Tt ?_))))))))))))))))
        intro s2 _
        refine Pre.world (St _ _ (_ :: _ :: _ :: _ :: _ :: _ :: _ :: _ :: _ :: _ :: _ :: HQ.H (x))) Ih ?_
        refine d_held (H2 6 11 I) (Aq 9 I (H2 6 11 I) (q_move I I) (Aq 10 I (H2 6 11 I) (q_extract I I I) (Aq 11 I (H2 6 11 I) (q_extract I I I) (a_all1 13 (by kernel_rfl) I I (e_storeAgg I I Z135 I I I (NV.one _) (by show 0 + 5 ≤ 5; decide) (cells_eq (show Sep.splice _ 0 ((⟨s2, L.r.nd⟩ : NV)).c = ((⟨s2, L.r.nd⟩ : NV)).c from Sep.splice_all I) (d_held (H2 6 11 I) (Aq 14 I (H2 6 11 I) (q_assign I I) (a_nil (by kernel_rfl) (pull16 (pull16 (pull16 (pull16 (pull16 (pull16 (pull12 (pull16 (pull16 (pull16 (pull16 (pull11 (pull16 (pull16 ?_)))))))))))))))))))))))
        refine pull16 (pull16 (pull16 ?_))
        exact k_meet ((s2, bq)) trivial (Sub.cons I (Sub.cons I (Sub.cons I (Sub.cons I (Sub.nil))))) (fun _ h => h)
    · intro s2 bq _
      refine Cs I (Ak I (c_seq (Cs I (Lm I (Lc I (Lfa U249 I Z3 I (Lo G3 10 I (Nk (c_block (c_seq (c_block (c_seq (c_block (c_seq (c_block (c_seq (c_block (c_seq (c_block (c_seq (c_block (c_seq (c_block ?_)))))))))))))))))))))))
      refine c_seq (c_block (c_seq (c_block (c_seq (c_block (c_seq (c_seq (Cs I (Lq I (q_eql I I I) (Ak I (Sb 55 false I (I) (c_false I (c_skip (Ks (Cs I (Lq I (q_eql I I I) (Ak I (Sb 57 false I (I) (c_false I (c_skip (Ks (Cs I (Lq I (q_eql I I I) ?_)))))))))))))))))))))))
      refine Ak I (Sb 59 false I (I) (c_false I (c_skip (Ks (Cs I (Lq I (q_eql I I I) (Ak I (Sb 61 false I (I) (c_false I (c_skip (Ks (Cs I (Lq I (q_eql I I I) (Ak I (Sb 63 false I (I) (c_false I (c_skip (Ks (Cs I (Lq I (q_eql I I I) (Ak I (Sb 65 false I (I) (c_false I ?_)))))))))))))))))))))))
      refine c_skip (Ks (Cs I (Lq I (q_eql I I I) (Ak I (Sb 67 false I (I) (c_false I (c_skip (Ks (Cs I (Lq I (q_eql I I I) (Ak I (Sb 69 false I (I) (c_false I (c_skip (Ks (Cs I (Lq I (q_eql I I I) (Ak I (Sb 71 false I (I) (c_false I (c_skip (Kt (Cs I ?_)))))))))))))))))))))))
      refine Lq I (q_eql I I I) (Ak I (Sb 73 true I (I) (c_true I (c_exit (k_then_exit (k_block_other I (k_then_exit (k_block_other I (k_then_exit (k_block_other I (k_then_exit (k_block_other I (k_then_exit (k_block_other I (k_then_exit (k_block_other I (k_then_exit (k_block_other I (k_then_exit (k_block_other I (k_then_exit (k_block_other I (k_then_exit ?_)))))))))))))))))))))))
      refine k_block_exit (Kt (Cs I (Lm I (Lm I (Lq I (q_loadCAgg ((⟨s, L.r.nd⟩ : NV).c) I G135 Z135 I (Hat 0 I) (I) (I)) (pull16 (pull16 (pull16 (pull16 (pull16 (pull16 (pull16 (pull16 (pull16 (pull16 (pull16 (pull16 (pull16 (pull16 (pull16 (pull16 (pull16 (l_e I ?_)))))))))))))))))))))))
      refine e_callH [_, _, _, _, _, _, _, _, _, _] (rmgrow h ht br 10 (⟨s, L.r.nd⟩ : NV) hcl hct hls) I I I call142 I Tt ?_
      rintro y ⟨hbh, hy⟩
      refine Pre.world (St _ _ (_ :: _ :: _ :: _ :: _ :: _ :: _ :: _ :: _ :: _ :: _ :: HQ.H y)) Ih ?_
      refine Nk (c_exit (k_block_exit (Ks (D4 [(0,O),(1,O),(2,O),(3,O),(4,O),(5,O),(6,O),(7,O),(8,O),(9,O),(10,W)] [10] [(_,O),(_,O),(_,O),(_,O),(_,O),(_,O),(_,O),(_,O),(_,O),(_,O),(_,W)] _ I I I I St.drawn Ih (Dm I (Dc I (Dfa U249 I Z3 I (Dq I (q_loadC I G3 I (Hat 10 I) I) (Dq I (q_eql I I I) (Dm I (Dc I (Dfa U249 I Z44 I (Dq I (q_loadC I G44 I (Hat 10 I) I) (Das I (d_t I (e_q I I (q_assign I I) (d_nil (Kt (c_ret (pull16 (pull16 (pull16 (pull16 ?_)))))))))))))))))))))))
      refine pull16 (pull16 (pull16 (pull16 (pull16 (pull16 (pull16 (pull16 (pull16 (pull16 (pull16 (pull16 (pull16 (drop0 (drop0 (drop0 (drop0 (drop0 (drop0 (drop0 (drop0 (drop0 (drop0 (r_many (rs := [.tmp 4, .tmp 5]) I I ?_)))))))))))))))))))))))
      exact fun _ hh => ⟨y, rfl, ⟨hbh, hy⟩, hh⟩
theorem wb1 {x : HQ} {L : Lf} {B : Nat} (h : LH x L B) {t : Int} (ht : tkB t = true) (hmay : L.mayH t = true) (br : Nat) (h2 : L.r.st = 2) (b : Nat) (m : Ms) (sq : Int) (hlen : 2 ≤ L.r.nd.es.length) : Con Tryz.prog 186 [ptV b, ptV x.bh, .int .u64 sq] (fun _ => True) (cellsE br 249 (rmC t 1 0 true false true 0) :: WRE b (⟨t, m, 4, true, (ptV br), 0⟩ : Wr) :: x.H) (fun _ : Unit => .bool false) (fun _ => True) (fun _ => cellsE br 249 (rmC t 6 0 true false true 0) :: WRE b (⟨t, m, 4, true, (ptV br), 0⟩ : Wr) :: HQ.H (x)) := by
  intro w hE hH
  refine enter (n := 36) (vs := [ptV b, ptV x.bh, .int .u64 sq]) (St w (dom (cellsE br 249 (rmC t 1 0 true false true 0) :: WRE b (⟨t, m, 4, true, (ptV br), 0⟩ : Wr) :: x.H)) (cellsE br 249 (rmC t 1 0 true false true 0) :: WRE b (⟨t, m, 4, true, (ptV br), 0⟩ : Wr) :: x.H)) func186 I I I (St.init hH) ?_
  refine Cs I (Ak I (Cs I (Lm I (Lc I (Lfa U229 I Z177 I (Lq I (q_loadC I isAgg177 I (Hat 1 I) (Wr.mid _ (j := 2) I)) (Lm I (pull7 (pull7 (pull7 (pull7 (pull7 (pull7 (pull6 (pull7 (l_e I (e_callH [_] (rs1 h ht hmay br h2 hlen) I I I call88 I Tt ?_)))))))))))))))))
  rintro _ _
  refine Pre.world (St _ _ (_ :: _ :: HQ.H (x))) Ih ?_
  refine Lm I (Lq I (q_extract I I I) (Lq I (q_extract I I I) (Las I (Ak I (c_seq (c_block (Cs I (Lm I (Lm I (Lx I (Lx I (Lq I (q_pick_f I I I) (Ak I (c_false I (Cs I (Lm I (Ak I (c_false I (c_skip (k_block (Kt (Cs I (Ak I ?_)))))))))))))))))))))))
  refine c_ret (pull7 (pull7 (pull7 (pull7 (pull7 (pull7 (pull6 (pull7 (r_one I I ?_)))))))))
  exact fun _ hh => ⟨(), rfl, trivial, hh⟩
theorem wb2 {x : HQ} {L : Lf} {B : Nat} (h : LH x L B) {t : Int} (ht : tkB t = true) (hmay : L.mayH t = true) (br : Nat) (h2 : L.r.st = 2) (b : Nat) (m : Ms) (sq : Int) (hB : B + 1 ≤ 60000) (hl : t ∉ L.ld) (hc : L.cl = 0 ∨ L.ct = t) (h1 : L.cl ≤ 1) : Con Tryz.prog 186 [ptV b, ptV x.bh, .int .u64 sq] (fun _ => True) (cellsE br 249 (rmC t 6 0 true false true 0) :: WRE b (⟨t, m, 4, true, (ptV br), 0⟩ : Wr) :: x.H) (fun y : HQ => .bool false) (fun y => y.bh = x.bh ∧ LH y (L.claim t) (B + 1)) (fun y => cellsE br 249 (rmC t 7 0 true false true 0) :: WRE b (⟨t, m, 4, true, (ptV br), 0⟩ : Wr) :: HQ.H (y)) := by
  intro w hE hH
  refine enter (n := 36) (vs := [ptV b, ptV x.bh, .int .u64 sq]) (St w (dom (cellsE br 249 (rmC t 6 0 true false true 0) :: WRE b (⟨t, m, 4, true, (ptV br), 0⟩ : Wr) :: x.H)) (cellsE br 249 (rmC t 6 0 true false true 0) :: WRE b (⟨t, m, 4, true, (ptV br), 0⟩ : Wr) :: x.H)) func186 I I I (St.init hH) ?_
  refine Cs I (Ak I (Cs I (Lm I (Lc I (Lfa U229 I Z177 I (Lq I (q_loadC I isAgg177 I (Hat 1 I) (Wr.mid _ (j := 2) I)) (Lm I (pull7 (pull7 (pull7 (pull7 (pull7 (pull7 (pull6 (pull7 (l_e I (e_callH [_] (rs2 h ht hmay br h2 hB hl hc h1) I I I call88 I Tt ?_)))))))))))))))))
  rintro y ⟨hbh, hy⟩
  refine Pre.world (St _ _ (_ :: _ :: HQ.H (y))) Ih ?_
  refine Lm I (Lq I (q_extract I I I) (Lq I (q_extract I I I) (Las I (Ak I (c_seq (c_block (Cs I (Lm I (Lm I (Lx I (Lx I (Lq I (q_pick_f I I I) (Ak I (c_false I (Cs I (Lm I (Ak I (c_false I (c_skip (k_block (Kt (Cs I (Ak I ?_)))))))))))))))))))))))
  refine c_ret (pull7 (pull7 (pull7 (pull7 (pull7 (pull7 (pull6 (pull7 (r_one I I ?_)))))))))
  exact fun _ hh => ⟨y, rfl, ⟨hbh, hy⟩, hh⟩
theorem wb3 {x : HQ} {L : Lf} {B : Nat} (h : LH x L B) {t : Int} (ht : tkB t = true) (hmay : L.mayH t = true) (br : Nat) (h2 : L.r.st = 2) (b : Nat) (m : Ms) (sq : Int) (hB : B + 1 ≤ 60000) (hl : t ∉ L.ld) (hc : L.cl = 0 ∨ L.ct = t) (h1 : L.cl ≤ 1) : Con Tryz.prog 186 [ptV b, ptV x.bh, .int .u64 sq] (fun _ => True) (cellsE br 249 (rmC t 7 0 true false true 0) :: WRE b (⟨t, m, 4, true, (ptV br), 0⟩ : Wr) :: x.H) (fun y : HQ => .bool false) (fun y => y.bh = x.bh ∧ LH y (L.claim t) (B + 1)) (fun y => cellsE br 249 (rmC t 10 0 true false true 0) :: WRE b (⟨t, m, 4, true, (ptV br), 0⟩ : Wr) :: HQ.H (y)) := by
  intro w hE hH
  refine enter (n := 36) (vs := [ptV b, ptV x.bh, .int .u64 sq]) (St w (dom (cellsE br 249 (rmC t 7 0 true false true 0) :: WRE b (⟨t, m, 4, true, (ptV br), 0⟩ : Wr) :: x.H)) (cellsE br 249 (rmC t 7 0 true false true 0) :: WRE b (⟨t, m, 4, true, (ptV br), 0⟩ : Wr) :: x.H)) func186 I I I (St.init hH) ?_
  refine Cs I (Ak I (Cs I (Lm I (Lc I (Lfa U229 I Z177 I (Lq I (q_loadC I isAgg177 I (Hat 1 I) (Wr.mid _ (j := 2) I)) (Lm I (pull7 (pull7 (pull7 (pull7 (pull7 (pull7 (pull6 (pull7 (l_e I (e_callH [_] (rs3 h ht hmay br h2 hB hl hc h1) I I I call88 I Tt ?_)))))))))))))))))
  rintro y ⟨hbh, hy⟩
  refine Pre.world (St _ _ (_ :: _ :: HQ.H (y))) Ih ?_
  refine Lm I (Lq I (q_extract I I I) (Lq I (q_extract I I I) (Las I (Ak I (c_seq (c_block (Cs I (Lm I (Lm I (Lx I (Lx I (Lq I (q_pick_f I I I) (Ak I (c_false I (Cs I (Lm I (Ak I (c_false I (c_skip (k_block (Kt (Cs I (Ak I ?_)))))))))))))))))))))))
  refine c_ret (pull7 (pull7 (pull7 (pull7 (pull7 (pull7 (pull6 (pull7 (r_one I I ?_)))))))))
  exact fun _ hh => ⟨y, rfl, ⟨hbh, hy⟩, hh⟩
theorem wb4 {x : HQ} {L : Lf} {B : Nat} (h : LH x L B) {t : Int} (ht : tkB t = true) (hmay : L.mayH t = true) (br : Nat) (h2 : L.r.st = 2) (b : Nat) (m : Ms) (sq : Int) (hcl : L.cl = 2) (hct : L.ct = t) (hls : L.s.left < 2) (hhs : hasB L.la t = true) : Con Tryz.prog 186 [ptV b, ptV x.bh, .int .u64 sq] (fun _ => True) (cellsE br 249 (rmC t 10 0 true false true 0) :: WRE b (⟨t, m, 4, true, (ptV br), 0⟩ : Wr) :: x.H) (fun y : HQ => .bool false) (fun y => y.bh = x.bh ∧ LH y (L.give.leave t) B) (fun y => WRE b (⟨t, m, 5, false, (.pointer none), 3⟩ : Wr) :: y.H) := by
  intro w hE hH
  refine enter (n := 36) (vs := [ptV b, ptV x.bh, .int .u64 sq]) (St w (dom (cellsE br 249 (rmC t 10 0 true false true 0) :: WRE b (⟨t, m, 4, true, (ptV br), 0⟩ : Wr) :: x.H)) (cellsE br 249 (rmC t 10 0 true false true 0) :: WRE b (⟨t, m, 4, true, (ptV br), 0⟩ : Wr) :: x.H)) func186 I I I (St.init hH) ?_
  refine Cs I (Ak I (Cs I (Lm I (Lc I (Lfa U229 I Z177 I (Lq I (q_loadC I isAgg177 I (Hat 1 I) (Wr.mid _ (j := 2) I)) (Lm I (pull7 (pull7 (pull7 (pull7 (pull7 (pull7 (pull6 (pull7 (l_e I (e_callH [_] (rs4 h ht hmay br h2 hcl hct hls) I I I call88 I Tt ?_)))))))))))))))))
  rintro y ⟨hbh, hy⟩
  refine Pre.world (St _ _ (_ :: _ :: HQ.H (y))) Ih ?_
  refine Lm I (Lq I (q_extract I I I) (Lq I (q_extract I I I) (Las I (Ak I (c_seq (c_block (Cs I (Lm I (Lm I (Lm I (Lq I (q_eql I I I) (Lq I (q_pick_t I I I) (Ak I (Sb 18 false I (I) (c_false I (Cs I (Lm I (Ak I (c_true I (Cr I (Lm I (Lm I (Lm I ?_)))))))))))))))))))))))
  refine Sv' 33 (ptV y.bh) I (by rw [hbh]) (pull7 (pull7 (pull7 (pull7 (pull7 (pull7 (pull6 (pull7 (l_e I (e_callH [_] (wrleave hy ht b m (3 : Int) h2 hhs 4 (ptV br)) I I I call254 I Tt ?_))))))))))
  rintro z ⟨hbz, hz⟩
  refine Pre.world (St _ _ (_ :: _ :: HQ.H z)) Ih ?_
  refine l_nil (k_block (Kt (Cs I (Ak I (c_ret (drop0 (r_one I I ?_)))))))
  exact fun _ hh => ⟨z, rfl, ⟨by rw [hbz, hbh], hz⟩, hh⟩
theorem wsb1 {x : HQ} {L : Lf} {B : Nat} (h : LH x L B) {t : Int} (ht : tkB t = true) (hmay : L.mayH t = true) (b : Nat) (m : Ms) (sq : Int) (br : Nat) (h2 : L.r.st = 2) (hlen : 2 ≤ L.r.nd.es.length) : Con Tryz.prog 80 [ptV b, ptV x.bh, .int .u64 sq] (fun _ => True) (cellsE br 249 (rmC t 1 0 true false true 0) :: WRE b (⟨t, m, 4, true, (ptV br), 0⟩ : Wr) :: x.H) (fun _ : Unit => .tuple #[.bool false, .bool false, .int .i64 0]) (fun _ => True) (fun _ => cellsE br 249 (rmC t 6 0 true false true 0) :: WRE b (⟨t, m, 4, true, (ptV br), 0⟩ : Wr) :: HQ.H (x)) := by
  intro w hE hH
  refine enter (n := 42) (vs := [ptV b, ptV x.bh, .int .u64 sq]) (St w (dom (cellsE br 249 (rmC t 1 0 true false true 0) :: WRE b (⟨t, m, 4, true, (ptV br), 0⟩ : Wr) :: x.H)) (cellsE br 249 (rmC t 1 0 true false true 0) :: WRE b (⟨t, m, 4, true, (ptV br), 0⟩ : Wr) :: x.H)) func80 I I I (St.init hH) ?_
  refine Cs I (Las I (Las I (Ak I (c_seq (Cs I (Lm I (Lc I (Lfa U229 I Z3 I (Lq I (q_loadC I G3 I (Hat 1 I) (Wr.mid _ (j := 0) I)) (Lq I (q_neq I I I) (Lm I (Sb 14 true I (I) (Lm I (Lm I (Lc I (Lfa U229 I Z3 I (Lo G3 1 I (l_e I (e_callH [_, _] (lmay h t) I I I call82 I Tt ?_)))))))))))))))))))
  intro _ _
  refine Pre.world (St _ _ (_ :: _ :: HQ.H (x))) Ih ?_
  refine Sv' 20 (.bool true) I (by rw [hmay]) (Lq I (q_pick_t I I I) (Nk (c_true I (D8 [(1,O),(2,O),(3,O),(4,O),(6,O),(7,O),(8,O),(0,V),(5,O),(9,W),(10,W)] [9, 10] [(_,O),(_,O),(_,O),(_,O),(_,O),(_,O),(_,O),(_,V),(_,O),(_,W),(_,W)] (fun w2 => (WRE b (⟨t, m, 4, true, (ptV br), 0⟩ : Wr)).at w2) I I I I St.drawn (Hat 1 I) (Dm I (Dc I (Dfa U229 I Z3 I (Dq I (q_loadC I G3 I Ih (Wr.mid _ (j := 0) I)) (Dm I (Dm I (Dm I (d_e I (e_call_00 (wrsteps) I I I call124 I Tt ?_)))))))))))))
  intro _ _
  refine d_held (Hat 1 I) (Dq I (q_indexA (v := fnV 186) I I I (fun w => by kernel_rfl)) (d_t I (e_callFH [] (wb1 h ht hmay br h2 b m sq hlen) I I I I call186 I Tt ?_)))
  rintro _ _
  refine Pre.world (St _ _ (_ :: _ :: HQ.H (x))) Ih ?_
  refine d_t I (e_q I I (q_assign I I) (d_nil (Ks (D8 [(0,O),(1,O),(2,O),(3,O),(4,O),(5,O),(6,O),(7,O),(8,O),(9,O),(10,O),(11,O),(12,W)] [12] [(_,O),(_,O),(_,O),(_,O),(_,O),(_,O),(_,O),(_,O),(_,O),(_,O),(_,O),(_,O),(_,W)] _ I I I I St.drawn Ih (Dm I (Dc I (Dfa U229 I Z3 I (Dq I (q_loadC I G3 I (Hat 1 I) (Wr.mid _ (j := 0) I)) (Dq I (q_eql I I I) (Dm I (Dm I (Dc I (Dfa U229 I Z44 I (Dq I (q_loadC I G44 I (Hat 1 I) (Wr.mid _ (j := 3) I)) (Das I (Das I (d_t I (e_q I I (q_assign I I) (d_nil (Kt (c_ret (r_many (rs := [.tmp 6, .tmp 7, .tmp 8]) I I ?_))))))))))))))))))))))
  exact fun _ hh => ⟨(), congrArg (fun z => Ending.returned (Value.tuple #[Value.bool z, .bool false, .int .i64 0])) (I), trivial, hh⟩
theorem wsb2 {x : HQ} {L : Lf} {B : Nat} (h : LH x L B) {t : Int} (ht : tkB t = true) (hmay : L.mayH t = true) (b : Nat) (m : Ms) (sq : Int) (br : Nat) (h2 : L.r.st = 2) (hB : B + 1 ≤ 60000) (hl : t ∉ L.ld) (hc : L.cl = 0 ∨ L.ct = t) (h1 : L.cl ≤ 1) : Con Tryz.prog 80 [ptV b, ptV x.bh, .int .u64 sq] (fun _ => True) (cellsE br 249 (rmC t 6 0 true false true 0) :: WRE b (⟨t, m, 4, true, (ptV br), 0⟩ : Wr) :: x.H) (fun y : HQ => .tuple #[.bool false, .bool false, .int .i64 0]) (fun y => y.bh = x.bh ∧ LH y (L.claim t) (B + 1)) (fun y => cellsE br 249 (rmC t 7 0 true false true 0) :: WRE b (⟨t, m, 4, true, (ptV br), 0⟩ : Wr) :: HQ.H (y)) := by
  intro w hE hH
  refine enter (n := 42) (vs := [ptV b, ptV x.bh, .int .u64 sq]) (St w (dom (cellsE br 249 (rmC t 6 0 true false true 0) :: WRE b (⟨t, m, 4, true, (ptV br), 0⟩ : Wr) :: x.H)) (cellsE br 249 (rmC t 6 0 true false true 0) :: WRE b (⟨t, m, 4, true, (ptV br), 0⟩ : Wr) :: x.H)) func80 I I I (St.init hH) ?_
  refine Cs I (Las I (Las I (Ak I (c_seq (Cs I (Lm I (Lc I (Lfa U229 I Z3 I (Lq I (q_loadC I G3 I (Hat 1 I) (Wr.mid _ (j := 0) I)) (Lq I (q_neq I I I) (Lm I (Sb 14 true I (I) (Lm I (Lm I (Lc I (Lfa U229 I Z3 I (Lo G3 1 I (l_e I (e_callH [_, _] (lmay h t) I I I call82 I Tt ?_)))))))))))))))))))
  intro _ _
  refine Pre.world (St _ _ (_ :: _ :: HQ.H (x))) Ih ?_
  refine Sv' 20 (.bool true) I (by rw [hmay]) (Lq I (q_pick_t I I I) (Nk (c_true I (D8 [(1,O),(2,O),(3,O),(4,O),(6,O),(7,O),(8,O),(0,V),(5,O),(9,W),(10,W)] [9, 10] [(_,O),(_,O),(_,O),(_,O),(_,O),(_,O),(_,O),(_,V),(_,O),(_,W),(_,W)] (fun w2 => (WRE b (⟨t, m, 4, true, (ptV br), 0⟩ : Wr)).at w2) I I I I St.drawn (Hat 1 I) (Dm I (Dc I (Dfa U229 I Z3 I (Dq I (q_loadC I G3 I Ih (Wr.mid _ (j := 0) I)) (Dm I (Dm I (Dm I (d_e I (e_call_00 (wrsteps) I I I call124 I Tt ?_)))))))))))))
  intro _ _
  refine d_held (Hat 1 I) (Dq I (q_indexA (v := fnV 186) I I I (fun w => by kernel_rfl)) (d_t I (e_callFH [] (wb2 h ht hmay br h2 b m sq hB hl hc h1) I I I I call186 I Tt ?_)))
  rintro y ⟨hbh, hy⟩
  refine Pre.world (St _ _ (_ :: _ :: HQ.H (y))) Ih ?_
  refine d_t I (e_q I I (q_assign I I) (d_nil (Ks (D8 [(0,O),(1,O),(2,O),(3,O),(4,O),(5,O),(6,O),(7,O),(8,O),(9,O),(10,O),(11,O),(12,W)] [12] [(_,O),(_,O),(_,O),(_,O),(_,O),(_,O),(_,O),(_,O),(_,O),(_,O),(_,O),(_,O),(_,W)] _ I I I I St.drawn Ih (Dm I (Dc I (Dfa U229 I Z3 I (Dq I (q_loadC I G3 I (Hat 1 I) (Wr.mid _ (j := 0) I)) (Dq I (q_eql I I I) (Dm I (Dm I (Dc I (Dfa U229 I Z44 I (Dq I (q_loadC I G44 I (Hat 1 I) (Wr.mid _ (j := 3) I)) (Das I (Das I (d_t I (e_q I I (q_assign I I) (d_nil (Kt (c_ret (r_many (rs := [.tmp 6, .tmp 7, .tmp 8]) I I ?_))))))))))))))))))))))
  exact fun _ hh => ⟨y, congrArg (fun z => Ending.returned (Value.tuple #[Value.bool z, .bool false, .int .i64 0])) (I), ⟨hbh, hy⟩, hh⟩
theorem wsb3 {x : HQ} {L : Lf} {B : Nat} (h : LH x L B) {t : Int} (ht : tkB t = true) (hmay : L.mayH t = true) (b : Nat) (m : Ms) (sq : Int) (br : Nat) (h2 : L.r.st = 2) (hB : B + 1 ≤ 60000) (hl : t ∉ L.ld) (hc : L.cl = 0 ∨ L.ct = t) (h1 : L.cl ≤ 1) : Con Tryz.prog 80 [ptV b, ptV x.bh, .int .u64 sq] (fun _ => True) (cellsE br 249 (rmC t 7 0 true false true 0) :: WRE b (⟨t, m, 4, true, (ptV br), 0⟩ : Wr) :: x.H) (fun y : HQ => .tuple #[.bool false, .bool false, .int .i64 0]) (fun y => y.bh = x.bh ∧ LH y (L.claim t) (B + 1)) (fun y => cellsE br 249 (rmC t 10 0 true false true 0) :: WRE b (⟨t, m, 4, true, (ptV br), 0⟩ : Wr) :: HQ.H (y)) := by
  intro w hE hH
  refine enter (n := 42) (vs := [ptV b, ptV x.bh, .int .u64 sq]) (St w (dom (cellsE br 249 (rmC t 7 0 true false true 0) :: WRE b (⟨t, m, 4, true, (ptV br), 0⟩ : Wr) :: x.H)) (cellsE br 249 (rmC t 7 0 true false true 0) :: WRE b (⟨t, m, 4, true, (ptV br), 0⟩ : Wr) :: x.H)) func80 I I I (St.init hH) ?_
  refine Cs I (Las I (Las I (Ak I (c_seq (Cs I (Lm I (Lc I (Lfa U229 I Z3 I (Lq I (q_loadC I G3 I (Hat 1 I) (Wr.mid _ (j := 0) I)) (Lq I (q_neq I I I) (Lm I (Sb 14 true I (I) (Lm I (Lm I (Lc I (Lfa U229 I Z3 I (Lo G3 1 I (l_e I (e_callH [_, _] (lmay h t) I I I call82 I Tt ?_)))))))))))))))))))
  intro _ _
  refine Pre.world (St _ _ (_ :: _ :: HQ.H (x))) Ih ?_
  refine Sv' 20 (.bool true) I (by rw [hmay]) (Lq I (q_pick_t I I I) (Nk (c_true I (D8 [(1,O),(2,O),(3,O),(4,O),(6,O),(7,O),(8,O),(0,V),(5,O),(9,W),(10,W)] [9, 10] [(_,O),(_,O),(_,O),(_,O),(_,O),(_,O),(_,O),(_,V),(_,O),(_,W),(_,W)] (fun w2 => (WRE b (⟨t, m, 4, true, (ptV br), 0⟩ : Wr)).at w2) I I I I St.drawn (Hat 1 I) (Dm I (Dc I (Dfa U229 I Z3 I (Dq I (q_loadC I G3 I Ih (Wr.mid _ (j := 0) I)) (Dm I (Dm I (Dm I (d_e I (e_call_00 (wrsteps) I I I call124 I Tt ?_)))))))))))))
  intro _ _
  refine d_held (Hat 1 I) (Dq I (q_indexA (v := fnV 186) I I I (fun w => by kernel_rfl)) (d_t I (e_callFH [] (wb3 h ht hmay br h2 b m sq hB hl hc h1) I I I I call186 I Tt ?_)))
  rintro y ⟨hbh, hy⟩
  refine Pre.world (St _ _ (_ :: _ :: HQ.H (y))) Ih ?_
  refine d_t I (e_q I I (q_assign I I) (d_nil (Ks (D8 [(0,O),(1,O),(2,O),(3,O),(4,O),(5,O),(6,O),(7,O),(8,O),(9,O),(10,O),(11,O),(12,W)] [12] [(_,O),(_,O),(_,O),(_,O),(_,O),(_,O),(_,O),(_,O),(_,O),(_,O),(_,O),(_,O),(_,W)] _ I I I I St.drawn Ih (Dm I (Dc I (Dfa U229 I Z3 I (Dq I (q_loadC I G3 I (Hat 1 I) (Wr.mid _ (j := 0) I)) (Dq I (q_eql I I I) (Dm I (Dm I (Dc I (Dfa U229 I Z44 I (Dq I (q_loadC I G44 I (Hat 1 I) (Wr.mid _ (j := 3) I)) (Das I (Das I (d_t I (e_q I I (q_assign I I) (d_nil (Kt (c_ret (r_many (rs := [.tmp 6, .tmp 7, .tmp 8]) I I ?_))))))))))))))))))))))
  exact fun _ hh => ⟨y, congrArg (fun z => Ending.returned (Value.tuple #[Value.bool z, .bool false, .int .i64 0])) (I), ⟨hbh, hy⟩, hh⟩
theorem wsb4 {x : HQ} {L : Lf} {B : Nat} (h : LH x L B) {t : Int} (ht : tkB t = true) (hmay : L.mayH t = true) (b : Nat) (m : Ms) (sq : Int) (br : Nat) (h2 : L.r.st = 2) (hcl : L.cl = 2) (hct : L.ct = t) (hls : L.s.left < 2) (hhs : hasB L.la t = true) : Con Tryz.prog 80 [ptV b, ptV x.bh, .int .u64 sq] (fun _ => True) (cellsE br 249 (rmC t 10 0 true false true 0) :: WRE b (⟨t, m, 4, true, (ptV br), 0⟩ : Wr) :: x.H) (fun y : HQ => .tuple #[.bool true, .bool false, .int .i64 3]) (fun y => y.bh = x.bh ∧ LH y (L.give.leave t) B) (fun y => WRE b (⟨t, m, 5, false, (.pointer none), 3⟩ : Wr) :: HQ.H (y)) := by
  intro w hE hH
  refine enter (n := 42) (vs := [ptV b, ptV x.bh, .int .u64 sq]) (St w (dom (cellsE br 249 (rmC t 10 0 true false true 0) :: WRE b (⟨t, m, 4, true, (ptV br), 0⟩ : Wr) :: x.H)) (cellsE br 249 (rmC t 10 0 true false true 0) :: WRE b (⟨t, m, 4, true, (ptV br), 0⟩ : Wr) :: x.H)) func80 I I I (St.init hH) ?_
  refine Cs I (Las I (Las I (Ak I (c_seq (Cs I (Lm I (Lc I (Lfa U229 I Z3 I (Lq I (q_loadC I G3 I (Hat 1 I) (Wr.mid _ (j := 0) I)) (Lq I (q_neq I I I) (Lm I (Sb 14 true I (I) (Lm I (Lm I (Lc I (Lfa U229 I Z3 I (Lo G3 1 I (l_e I (e_callH [_, _] (lmay h t) I I I call82 I Tt ?_)))))))))))))))))))
  intro _ _
  refine Pre.world (St _ _ (_ :: _ :: HQ.H (x))) Ih ?_
  refine Sv' 20 (.bool true) I (by rw [hmay]) (Lq I (q_pick_t I I I) (Nk (c_true I (D8 [(1,O),(2,O),(3,O),(4,O),(6,O),(7,O),(8,O),(0,V),(5,O),(9,W),(10,W)] [9, 10] [(_,O),(_,O),(_,O),(_,O),(_,O),(_,O),(_,O),(_,V),(_,O),(_,W),(_,W)] (fun w2 => (WRE b (⟨t, m, 4, true, (ptV br), 0⟩ : Wr)).at w2) I I I I St.drawn (Hat 1 I) (Dm I (Dc I (Dfa U229 I Z3 I (Dq I (q_loadC I G3 I Ih (Wr.mid _ (j := 0) I)) (Dm I (Dm I (Dm I (d_e I (e_call_00 (wrsteps) I I I call124 I Tt ?_)))))))))))))
  intro _ _
  refine d_held (Hat 1 I) (Dq I (q_indexA (v := fnV 186) I I I (fun w => by kernel_rfl)) (d_t I (e_callFH [] (wb4 h ht hmay br h2 b m sq hcl hct hls hhs) I I I I call186 I Tt ?_)))
  rintro y ⟨hbh, hy⟩
  refine Pre.world (St _ _ (_ :: HQ.H (y))) Ih ?_
  refine d_t I (e_q I I (q_assign I I) (d_nil (Ks (D8 [(0,O),(1,O),(2,O),(3,O),(4,O),(5,O),(6,O),(7,O),(8,O),(9,O),(10,O),(11,O),(12,W)] [12] [(_,O),(_,O),(_,O),(_,O),(_,O),(_,O),(_,O),(_,O),(_,O),(_,O),(_,O),(_,O),(_,W)] _ I I I I St.drawn Ih (Dm I (Dc I (Dfa U229 I Z3 I (Dq I (q_loadC I G3 I (Hat 0 I) (Wr.mid _ (j := 0) I)) (Dq I (q_eql I I I) (Dm I (Dm I (Dc I (Dfa U229 I Z44 I (Dq I (q_loadC I G44 I (Hat 0 I) (Wr.mid _ (j := 3) I)) (Das I (Das I (d_t I (e_q I I (q_assign I I) (d_nil (Kt (c_ret (r_many (rs := [.tmp 6, .tmp 7, .tmp 8]) I I ?_))))))))))))))))))))))
  exact fun _ hh => ⟨y, congrArg (fun z => Ending.returned (Value.tuple #[Value.bool z, .bool false, .int .i64 3])) (I), ⟨hbh, hy⟩, hh⟩
structure Opn where
  kind : Int
  key : ByteArray
  val : ByteArray
  by' : Int
  wk : (Lit.int .i64 kind).wf = true
  wb : (Lit.int .u64 by').wf = true
def Opn.c (o : Opn) : List Value := [.int .i64 o.kind, .string o.key, .string o.val, .int .u64 o.by']
theorem Opn.one (o : Opn) : ∀ v ∈ o.c, v.oneCell' = true := fun v hv => by
  simp only [Opn.c, List.mem_cons, List.not_mem_nil, or_false] at hv
  rcases hv with rfl | rfl | rfl | rfl <;> rfl
def Opn.enc : Enc Opn := ⟨4, Opn.c, fun _ => rfl, Opn.one, by decide⟩
structure Ans where
  code : Int
  f : Bool
  v : Kv 16
def Ans.c (a : Ans) : List Value := [.int .i64 a.code, .bool a.f] ++ a.v.c
theorem Ans.c_len (a : Ans) : a.c.length = 19 := by simp [Ans.c, Kv.c_len]
theorem Ans.one (a : Ans) : ∀ v ∈ a.c, v.oneCell' = true := fun v hv => by
  rcases List.mem_append.1 hv with h | h
  · simp at h; rcases h with rfl | rfl <;> rfl
  · exact Kv.one _ v h
def ans0 : Ans := ⟨0, false, kv0 16⟩
structure Evt where
  cl : Int
  ix : Int
  d : Bool
  a : Ans
def Evt.c (e : Evt) : List Value := [.int .i64 e.cl, .int .i64 e.ix, .bool e.d] ++ e.a.c
theorem Evt.c_len (e : Evt) : e.c.length = 22 := by simp [Evt.c, Ans.c_len]
theorem Evt.one (e : Evt) : ∀ v ∈ e.c, v.oneCell' = true := fun v hv => by
  rcases List.mem_append.1 hv with h | h
  · simp at h; rcases h with rfl | rfl | rfl <;> rfl
  · exact Ans.one _ v h
def Evt.enc : Enc Evt := ⟨22, Evt.c, Evt.c_len, Evt.one, by decide⟩
def kOf (o : Opn) : Kv 8 := if h : o.key.size ≤ 8 then kof o.key h else kv0 8
def vOf (o : Opn) : Kv 16 := if h : o.val.size ≤ 16 then vof o.val h else kv0 16
end Go.Proofs.YtloldofjddbjoaaGreat
