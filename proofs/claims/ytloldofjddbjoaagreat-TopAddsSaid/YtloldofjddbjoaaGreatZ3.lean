/- Part 3 of the proof: texts of my own, laid behind one another. No condition. -/
import Derived.Test.YtloldofjddbjoaaGreatZ2
set_option linter.unusedVariables false
set_option linter.unusedSimpArgs false
set_option maxHeartbeats 8000000
set_option maxRecDepth 100000
namespace Go.Proofs.YtloldofjddbjoaaGreat
open Go.Sep Go.RowKit Tryz
theorem pin_spec {bc : Nat} {S : CS} {M : Mo} {B : Nat} (hR : Rel S M) (hO : M.Ok B) (hB : B + 1 ≤ 60000) (t b : Int) (hb64 : i64 b) : Con Tryz.prog 174 [.pointer (some ⟨bc, 0, none⟩), .int .i64 t, .int .i64 b] (fun _ => True) (S.H bc) (fun S' : CS => .int .i64 (M.pin t b).1) (fun S' => Rel S' (M.pin t b).2 ∧ ∀ G, NIn G S.fl → NIn G S'.fl) (fun S' => S'.H bc) := by
  intro w hE hH
  refine enter (n := 84) (vs := [.pointer (some ⟨bc, 0, none⟩), .int .i64 t, .int .i64 b]) (St w (dom (S.H bc)) (cellsE bc 257 (S).cells :: rowE (S).vF 259 FC.enc (S).fl :: mapT (S).bA kI kI (S).at' :: mapT (S).bL kI vS (S).ld :: rowE (S).vL 277 Wn.enc (S).ln :: (S).rows)) func174 I I I (St.init hH) ?_
  refine Cs I (Ak I (Cs I (Lm I (Lm I (Lq I (q_build ((⟨t, b, false⟩ : Wn).c) I I (fun w => by kernel_rfl)) (l_e I (e_alloc I I I zeroValue277 ?_)))))))
  intro bw
  refine cells_eq (show _ = (⟨0, 0, false⟩ : Wn).c from I) (l_e I (e_storeAgg I I Z277 I I I (Wn.one _) (by show 0 + 3 ≤ 3; decide) (cells_eq (show Sep.splice _ 0 ((⟨t, b, false⟩ : Wn)).c = ((⟨t, b, false⟩ : Wn)).c from Sep.splice_all I) (Ns (Cs I (Lm I (l_e I (e_call_00 (block_spec b) I I I call241 I Tt ?_))))))))
  intro _ _
  refine Lq I (q_not I I) (Lm I ?_)
  refine Pre.caseB 17 I (fun hb => ?_) (fun hb => ?_)
  · try simp only [B4] at hb
    have hu := pin_no (M := M) (t := t) (b := b) (by rw [hb]; rfl)
    refine Lx I (Lx I (Lx I (Lx I (Lq I (q_pick_t I I I) (Nk (c_true I (Cs I (Ak I (c_ret (k_then_ret (drop0 (r_one I I ?_))))))))))))
    exact fun _ h => ⟨S, by rw [hu], ⟨by rw [hu]; exact hR, fun _ h => h⟩, h⟩
  · try simp only [B4] at hb
    have hwn := wn_block hb t
    refine Lm I (Lq I (q_loadCAgg ((⟨t, b, false⟩ : Wn).c) I G277 Z277 I (Hat 0 I) (I) (I)) (Sv' 19 (.agg (wn (t, b)).c.toArray) I (by rw [hwn]) (l_e I (e_call_00 (may_spec hR hO t b hb64) I I I call242 I (fun _ h => CR.ofm (S := S) h (fun e he => List.mem_cons_of_mem _ (he))) ?_))))
    intro _ _
    refine Lq I (q_not I I) (Lq I (q_pick_f I I I) (Nk ?_))
    refine Pre.caseB 22 I (fun hm => ?_) (fun hm => ?_)
    · try simp only [B4] at hm
      have hu := pin_no (M := M) (t := t) (b := b) (by rw [hb, hm]; rfl)
      refine c_true I (Cs I (Ak I (c_ret (k_then_ret (drop0 (r_one I I ?_))))))
      exact fun _ h => ⟨S, by rw [hu], ⟨by rw [hu]; exact hR, fun _ h => h⟩, h⟩
    · try simp only [B4] at hm
      have hbm : (bkB b && M.mayW t b) = true := by rw [hb, hm]; rfl
      refine c_false I (c_skip (Ks (Cs I (Lm I (Lm I (l_e I (e_call_00 (place_spec hR hO b) I I I call194 I (fun _ h => CR.ofm (S := S) h (fun e he => List.mem_cons_of_mem _ (he))) ?_)))))))
      intro _ _
      refine Ak I (c_seq ?_)
      refine opt_cases (M.find b) (fun hf => ?_) (fun i hf => ?_)
      · refine Sv' 8 (.int .i64 (-1)) I (by rw [hf]; rfl) (Cr I (Lm I (Lq I (q_geq I I I) (Nk (Sb 27 false I (I) (c_false I (c_skip (Kt (Cs I (Lm I (Lm I (l_e I (e_call_00 (free_spec hR hO t) I I I call244 I (fun _ h => CR.ofm (S := S) h (fun e he => List.mem_cons_of_mem _ (he))) ?_)))))))))))))
        intro _ _
        refine Ak I (c_seq (c_seq ?_))
        refine opt_cases (M.takes t) (fun hk => ?_) (fun k hk => ?_)
        · have hu := pin_queue hbm hf hk
          refine Sv' 10 (.pointer none) I (by rw [hk]; rfl) (Cr I (Lm I (Lq I (q_eqp I U284 I I) (Nk (Sb 70 true I (I) (c_true I (Cs I (Lm I (Lq I (q_loadCAgg ((⟨t, b, false⟩ : Wn).c) I G277 Z277 I (Hat 0 I) (I) (I)) (Sv' 72 (.agg (wn (t, b)).c.toArray) I (by rw [hwn]) (l_e I (e_callH [_] (ask_spec hR hO t b) I I I call245 I Tt ?_))))))))))))
          intro v _
          refine Pre.world (St _ _ (_ :: cellsE bc 257 (({ S with vL := v, ln := (M.ask t b).line.map wn } : CS)).cells :: rowE (({ S with vL := v, ln := (M.ask t b).line.map wn } : CS)).vF 259 FC.enc (({ S with vL := v, ln := (M.ask t b).line.map wn } : CS)).fl :: mapT (({ S with vL := v, ln := (M.ask t b).line.map wn } : CS)).bA kI kI (({ S with vL := v, ln := (M.ask t b).line.map wn } : CS)).at' :: mapT (({ S with vL := v, ln := (M.ask t b).line.map wn } : CS)).bL kI vS (({ S with vL := v, ln := (M.ask t b).line.map wn } : CS)).ld :: rowE (({ S with vL := v, ln := (M.ask t b).line.map wn } : CS)).vL 277 Wn.enc (({ S with vL := v, ln := (M.ask t b).line.map wn } : CS)).ln :: (({ S with vL := v, ln := (M.ask t b).line.map wn } : CS)).rows)) Ih ?_
          refine Nk (Cs I (Ak I (c_ret (k_then_ret (drop0 (r_one I I ?_))))))
          exact fun _ h => ⟨({ S with vL := v, ln := (M.ask t b).line.map wn } : CS), by rw [hu], ⟨by rw [hu]; exact hR.line v _, fun _ h => h⟩, h⟩
        · have hu := pin_read hbm hf hk
          obtain ⟨y0, hy0, hys, hya⟩ := takes_at hk
          obtain ⟨f0, hfk, hfy⟩ := hR.get hy0
          have hkl := (List.getElem?_eq_some_iff.1 hfk).1
          refine Sv' 10 (fp S.vF k) I (by rw [hk]; rfl) (Cr I (Lm I (Lq I (q_eqp I U284 I I) (Nk (Sb 70 false I (I) (c_false I (c_skip (Kt (Cs I (Lm I (Lm I (l_e I (e_callH [_] (leave_spec hR hO t) I I I call243 I Tt ?_)))))))))))))
          intro v _
          refine Pre.world (St _ _ (_ :: cellsE bc 257 (({ S with vL := v, ln := (M.leave t).line.map wn } : CS)).cells :: rowE (({ S with vL := v, ln := (M.leave t).line.map wn } : CS)).vF 259 FC.enc (({ S with vL := v, ln := (M.leave t).line.map wn } : CS)).fl :: mapT (({ S with vL := v, ln := (M.leave t).line.map wn } : CS)).bA kI kI (({ S with vL := v, ln := (M.leave t).line.map wn } : CS)).at' :: mapT (({ S with vL := v, ln := (M.leave t).line.map wn } : CS)).bL kI vS (({ S with vL := v, ln := (M.leave t).line.map wn } : CS)).ld :: rowE (({ S with vL := v, ln := (M.leave t).line.map wn } : CS)).vL 277 Wn.enc (({ S with vL := v, ln := (M.leave t).line.map wn } : CS)).ln :: (({ S with vL := v, ln := (M.leave t).line.map wn } : CS)).rows)) Ih ?_
          refine Nk (Cs I (Lm I (Lm I (Lq I (q_build ((⟨1, b, -1, 1, true, false, nv0⟩ : FC).c) I I (fun w => by kernel_rfl)) (Lc I (pull2 (l_e I (e_storeVAgg k ((⟨1, b, -1, 1, true, false, nv0⟩ : FC)) I I Z259 I I I I (by omega) (Nk (Cs I (Lm I (Lm I (pull5 (pull5 (pull5 (pull3 (pull5 (pull5 ?_))))))))))))))))))
          have hfk2 : ({ S with vL := v, ln := (M.leave t).line.map wn, fl := S.fl.set k (⟨1, b, -1, 1, true, false, nv0⟩ : FC) } : CS).fl[k]? = some (⟨1, b, -1, 1, true, false, nv0⟩ : FC) := List.getElem?_set_self hkl
          have hf64 : ({ S with vL := v, ln := (M.leave t).line.map wn, fl := S.fl.set k (⟨1, b, -1, 1, true, false, nv0⟩ : FC) } : CS).fl.length ≤ 65536 := by
            show (S.fl.set k _).length ≤ _
            rw [List.length_set, hR.len]; have := hO.n64; omega
          refine Pre.world (St _ _ (_ :: CS.H bc ({ S with vL := v, ln := (M.leave t).line.map wn, fl := S.fl.set k (⟨1, b, -1, 1, true, false, nv0⟩ : FC) } : CS))) Ih ?_
          refine l_e I (e_callH [_] (placef_spec (S := ({ S with vL := v, ln := (M.leave t).line.map wn, fl := S.fl.set k (⟨1, b, -1, 1, true, false, nv0⟩ : FC) } : CS)) hfk2 hf64) I I I call246 I Tt ?_)
          intro _ _
          refine Pre.world (St _ _ (_ :: cellsE bc 257 (({ S with vL := v, ln := (M.leave t).line.map wn, fl := S.fl.set k (⟨1, b, -1, 1, true, false, nv0⟩ : FC), at' := mput b (k : Int) S.at' } : CS)).cells :: rowE (({ S with vL := v, ln := (M.leave t).line.map wn, fl := S.fl.set k (⟨1, b, -1, 1, true, false, nv0⟩ : FC), at' := mput b (k : Int) S.at' } : CS)).vF 259 FC.enc (({ S with vL := v, ln := (M.leave t).line.map wn, fl := S.fl.set k (⟨1, b, -1, 1, true, false, nv0⟩ : FC), at' := mput b (k : Int) S.at' } : CS)).fl :: mapT (({ S with vL := v, ln := (M.leave t).line.map wn, fl := S.fl.set k (⟨1, b, -1, 1, true, false, nv0⟩ : FC), at' := mput b (k : Int) S.at' } : CS)).bA kI kI (({ S with vL := v, ln := (M.leave t).line.map wn, fl := S.fl.set k (⟨1, b, -1, 1, true, false, nv0⟩ : FC), at' := mput b (k : Int) S.at' } : CS)).at' :: mapT (({ S with vL := v, ln := (M.leave t).line.map wn, fl := S.fl.set k (⟨1, b, -1, 1, true, false, nv0⟩ : FC), at' := mput b (k : Int) S.at' } : CS)).bL kI vS (({ S with vL := v, ln := (M.leave t).line.map wn, fl := S.fl.set k (⟨1, b, -1, 1, true, false, nv0⟩ : FC), at' := mput b (k : Int) S.at' } : CS)).ld :: rowE (({ S with vL := v, ln := (M.leave t).line.map wn, fl := S.fl.set k (⟨1, b, -1, 1, true, false, nv0⟩ : FC), at' := mput b (k : Int) S.at' } : CS)).vL 277 Wn.enc (({ S with vL := v, ln := (M.leave t).line.map wn, fl := S.fl.set k (⟨1, b, -1, 1, true, false, nv0⟩ : FC), at' := mput b (k : Int) S.at' } : CS)).ln :: (({ S with vL := v, ln := (M.leave t).line.map wn, fl := S.fl.set k (⟨1, b, -1, 1, true, false, nv0⟩ : FC), at' := mput b (k : Int) S.at' } : CS)).rows)) Ih ?_
          refine Nk (Cs I (Ak I (c_ret (drop0 (r_one I I ?_)))))
          exact fun _ h => ⟨({ S with vL := v, ln := (M.leave t).line.map wn, fl := S.fl.set k (⟨1, b, -1, 1, true, false, nv0⟩ : FC), at' := mput b (k : Int) S.at' } : CS), by rw [hu], ⟨by rw [hu]; exact (hR.line v (M.leave t).line).new (M := M.leave t) hy0 (by rw [hys]; decide) hf I I (.inl I), fun _ hG => hG.set (.zero _)⟩, h⟩
      · obtain ⟨y, hy, hyb, hys, hya⟩ := find_at hf
        obtain ⟨f, hfi, hfy⟩ := hR.get hy
        have hlt := (List.getElem?_eq_some_iff.1 hfi).1
        rw [← hfy] at hya hys hyb hy
        have hu := pin_at hbm hf hya
        have hB9 := hO.B9
        have hpb := hO.pins _ (List.mem_of_getElem? hy)
        have hpb1 : 0 ≤ f.pins := hpb.1
        have hpb2 : f.pins ≤ (B : Int) := hpb.2
        refine Sv' 8 (.int .i64 (i : Int)) I (by rw [hf]; rfl) (Cr I (Lm I (Lq I (q_geq I I I) (Nk (Sb 27 true I (decide_eq_true (by omega)) (c_true I (Cs I (Lm I (Lc I (Lfa U257 I Z253 I (Lo G253 1 I (Lm I (Lq I (q_indexV i I U253 Z259 I (Hrd 2 I) I I (by omega)) (Ak I (Cs I (Lm I (Lc I (Lfa U259 I Z3 I (Lq I (q_loadV i 3 I G3 I I (Hrd 2 I) hfi I) (Lq I (q_add64 I I I (by omega)) (Lc I (Lfa U259 I Z3 I (pull2 ?_)))))))))))))))))))))))
        refine l_e I (e_storeV i 3 (({ f with pins := f.pins + 1 } : FC)) I I Z3 I I I hfi (by decide) I (Nk (Cs I (Lm I (Lc I (Lfa U259 I Z4 I ?_))))))
        have hf2 : (S.fl.set i ({ f with pins := f.pins + 1 } : FC))[i]? = some ({ f with pins := f.pins + 1 } : FC) := List.getElem?_set_self hlt
        refine l_e I (e_storeV i 4 (({ f with pins := f.pins + 1, ref := true } : FC)) I I Z4 I I I hf2 (by decide) I (Ns (row_eq (List.set_set ..) (pull5 (pull5 (pull5 (pull3 (pull5 (pull5 (Cr I (Lm I (Lm I ?_))))))))))))
        have hR1 : Rel ({ S with fl := S.fl.set i ({ f with pins := f.pins + 1, ref := true } : FC) } : CS) (M.put i { vw f with pins := (vw f).pins + 1, ref := true }) := hR.put_same hfi rfl rfl Iff.rfl
        have hO1 : Mo.Ok (M.put i { vw f with pins := (vw f).pins + 1, ref := true }) (B + 1) := put_ok_same (y := vw f) (y' := { vw f with pins := (vw f).pins + 1, ref := true }) (hO.mono (Nat.le_succ B) hB) hy rfl rfl rfl ⟨by show 0 ≤ f.pins + 1; omega, by show f.pins + 1 ≤ _; omega⟩ (hO.es (vw f) (List.mem_of_getElem? hy))
        refine Pre.world (St _ _ (_ :: CS.H bc ({ S with fl := S.fl.set i ({ f with pins := f.pins + 1, ref := true } : FC) } : CS))) Ih ?_
        refine l_e I (e_callH [_] (leave_spec hR1 hO1 t) I I I call243 I Tt ?_)
        intro v _
        refine Pre.world (St _ _ (_ :: cellsE bc 257 (({ S with vL := v, ln := (Mo.leave (M.put i { vw f with pins := (vw f).pins + 1, ref := true }) t).line.map wn, fl := S.fl.set i ({ f with pins := f.pins + 1, ref := true } : FC) } : CS)).cells :: rowE (({ S with vL := v, ln := (Mo.leave (M.put i { vw f with pins := (vw f).pins + 1, ref := true }) t).line.map wn, fl := S.fl.set i ({ f with pins := f.pins + 1, ref := true } : FC) } : CS)).vF 259 FC.enc (({ S with vL := v, ln := (Mo.leave (M.put i { vw f with pins := (vw f).pins + 1, ref := true }) t).line.map wn, fl := S.fl.set i ({ f with pins := f.pins + 1, ref := true } : FC) } : CS)).fl :: mapT (({ S with vL := v, ln := (Mo.leave (M.put i { vw f with pins := (vw f).pins + 1, ref := true }) t).line.map wn, fl := S.fl.set i ({ f with pins := f.pins + 1, ref := true } : FC) } : CS)).bA kI kI (({ S with vL := v, ln := (Mo.leave (M.put i { vw f with pins := (vw f).pins + 1, ref := true }) t).line.map wn, fl := S.fl.set i ({ f with pins := f.pins + 1, ref := true } : FC) } : CS)).at' :: mapT (({ S with vL := v, ln := (Mo.leave (M.put i { vw f with pins := (vw f).pins + 1, ref := true }) t).line.map wn, fl := S.fl.set i ({ f with pins := f.pins + 1, ref := true } : FC) } : CS)).bL kI vS (({ S with vL := v, ln := (Mo.leave (M.put i { vw f with pins := (vw f).pins + 1, ref := true }) t).line.map wn, fl := S.fl.set i ({ f with pins := f.pins + 1, ref := true } : FC) } : CS)).ld :: rowE (({ S with vL := v, ln := (Mo.leave (M.put i { vw f with pins := (vw f).pins + 1, ref := true }) t).line.map wn, fl := S.fl.set i ({ f with pins := f.pins + 1, ref := true } : FC) } : CS)).vL 277 Wn.enc (({ S with vL := v, ln := (Mo.leave (M.put i { vw f with pins := (vw f).pins + 1, ref := true }) t).line.map wn, fl := S.fl.set i ({ f with pins := f.pins + 1, ref := true } : FC) } : CS)).ln :: (({ S with vL := v, ln := (Mo.leave (M.put i { vw f with pins := (vw f).pins + 1, ref := true }) t).line.map wn, fl := S.fl.set i ({ f with pins := f.pins + 1, ref := true } : FC) } : CS)).rows)) Ih ?_
        refine Ns (c_seq ?_)
        have hf3 : (S.fl.set i ({ f with pins := f.pins + 1, ref := true } : FC))[i]? = some ({ f with pins := f.pins + 1, ref := true } : FC) := List.getElem?_set_self hlt
        refine Cr I (Lm I (Lc I (Lfa U259 I Z3 I (Lq I (q_loadV i 0 I G3 I I (Hrd 2 I) hf3 I) (Lq I (q_eql I I I) (Nk ?_))))))
        refine Pre.caseB 51 I (fun hs => ?_) (fun hs => ?_)
        · try simp only [B4] at hs
          rw [if_pos (show (vw f).st = 2 from hs)] at hu
          refine c_true I (Cs I (Ak I (c_ret (k_then_ret (k_then_ret (drop0 (r_one I I ?_)))))))
          exact fun _ h => ⟨({ S with vL := v, ln := (Mo.leave (M.put i { vw f with pins := (vw f).pins + 1, ref := true }) t).line.map wn, fl := S.fl.set i ({ f with pins := f.pins + 1, ref := true } : FC) } : CS), by rw [hu], ⟨by rw [hu]; exact hR1.line v _, fun _ hG => hG.set_same hfi rfl⟩, h⟩
        · try simp only [B4] at hs
          rw [if_neg (show ¬ (vw f).st = 2 from hs)] at hu
          have hll := hO.ll
          have hR2 : Rel ({ S with vL := v, ln := (Mo.leave (M.put i { vw f with pins := (vw f).pins + 1, ref := true }) t).line.map wn, fl := S.fl.set i ({ f with pins := f.pins + 1, ref := true } : FC) } : CS) (Mo.leave (M.put i { vw f with pins := (vw f).pins + 1, ref := true }) t) := hR1.line v _
          refine c_false I (c_skip (Ks (D4 [(0,O),(1,O),(2,O),(3,O),(4,O),(5,O),(6,O),(7,O),(8,O),(9,O),(10,O),(11,O),(12,V),(13,V),(14,W)] [14] [(_,O),(_,O),(_,O),(_,O),(_,O),(_,O),(_,O),(_,O),(_,O),(_,O),(_,O),(_,O),(_,V),(_,V),(_,W)] (fun w2 => (cellsE bc 257 ({ S with vL := v, ln := (Mo.leave (M.put i { vw f with pins := (vw f).pins + 1, ref := true }) t).line.map wn, fl := S.fl.set i ({ f with pins := f.pins + 1, ref := true } : FC) } : CS).cells).at w2 ∧ (mapT S.bL kI vS S.ld).at w2) I I I I St.drawn (H2 1 4 I) (Dm I (Dc I (Dfa U257 I Z254 I (Dq I (q_loadC I isAgg254 I (fun _ h => h.1) I) (Dm I (Dm I (Dc I (Dfa U257 I Z254 I (Dq I (q_loadC I isAgg254 I (fun _ h => h.1) I) (Dm I (Dq I (q_lookupT (kf := kI) (vf := vS) b I U254 keyI zeroValue22 I I (fun _ h => h.2)) (Dm I ?_)))))))))))))))
          refine opt_cases (mget b S.ld) (fun hm2 => ?_) (fun q hm2 => ?_)
          · obtain ⟨_, hpu⟩ := mget_no hm2
            have ht : M.told b = [] := by have := hR.ld b; rw [hm2] at this; exact this
            refine Sv' 62 (nil0) I (by rw [hm2]) ?_
            have htl : (([] : List Int)).length ≤ B := by
              rw [← ht]; unfold Mo.told; rw [List.length_map]; exact Nat.le_trans (List.length_filter_le _ _) hll
            refine row0 3 (encI .i64) none (d_e I (e_buildSliceV (sz := 1) [.tmp 63] I I I I I U22 Z3 I zeroValue3 I ?_))
            intro b2
            refine d_held (H2 3 6 I) (pull1 (d_e I (e_append I I I U22 U22 info3 I I I I I (fun _ h => lit_rd (h.at 1 I) (encI .i64) [t] I I) (by simp only [byt3, List.length_append, List.length_cons, List.length_nil]; omega) (by simp only [List.length_append, List.length_cons, List.length_nil]; omega) ?_)))
            intro v2
            refine pull1 (drop0 (d_held (H2 2 5 I) (Pre.fact (fun _ h => rd_sv (h.rd 0 I)) ?_)))
            rintro ⟨sv, rfl⟩
            refine pull5 (d_t I (e_putT (kf := kI) (vf := vS) b (sv, (([] : List Int) ++ [t])) I I U254 keyI I I I (d_nil (Kt (Cs I (Ak I (c_ret (k_then_ret (pull2 (drop0 (pull5 (pull1 (pull5 (pull5 (pull5 (pull5 ?_))))))))))))))))
            have e2 : ({ S with vL := v, ln := (Mo.leave (M.put i { vw f with pins := (vw f).pins + 1, ref := true }) t).line.map wn, fl := S.fl.set i ({ f with pins := f.pins + 1, ref := true } : FC), ld := mput b (sv, (([] : List Int) ++ [t])) S.ld } : CS).rows = S.rows ++ [lrow (b, (sv, (([] : List Int) ++ [t])))] := by unfold CS.rows; show List.map _ (mput b (sv, (([] : List Int) ++ [t])) S.ld) = _; rw [hpu, List.map_append]; rfl
            refine r_one I I ?_
            exact fun _ h => ⟨({ S with vL := v, ln := (Mo.leave (M.put i { vw f with pins := (vw f).pins + 1, ref := true }) t).line.map wn, fl := S.fl.set i ({ f with pins := f.pins + 1, ref := true } : FC), ld := mput b (sv, (([] : List Int) ++ [t])) S.ld } : CS), by rw [hu], ⟨by rw [hu]; exact hR2.wait t b sv _ (by rw [show Mo.told (Mo.leave (M.put i { vw f with pins := (vw f).pins + 1, ref := true }) t) b = M.told b from rfl, ht]), fun _ hG => hG.set_same hfi rfl⟩, by
                  have h2 := St.addT (pre := [_, _, _, _, _]) (T := S.rows) h
                  rw [← e2] at h2; exact h2⟩
          · obtain ⟨j, hj, _, hpu⟩ := mget_find hm2
            have ht : M.told b = q.2 := by have := hR.ld b; rw [hm2] at this; exact this
            have hrj := rows_at hj
            refine Sv' 62 (q.1.v) I (by rw [hm2]) ?_
            have htl : (q.2).length ≤ B := by
              rw [← ht]; unfold Mo.told; rw [List.length_map]; exact Nat.le_trans (List.length_filter_le _ _) hll
            refine Pre.world (St _ _ (lrow (b, q) :: (_ :: _ :: _ :: _ :: _ :: _ :: S.rows.eraseIdx j))) (fun _ h => St.pullT (pre := [_, _, _, _, _, _]) (T := S.rows) hrj h) ?_
            refine d_e I (e_buildSliceV (sz := 1) [.tmp 63] I I I I I U22 Z3 I zeroValue3 I ?_)
            intro b3
            refine d_held (H2 3 6 I) (pull1 (d_e I (e_append I I I U22 U22 info3 I I I I I (fun _ h => lit_rd (h.at 1 I) (encI .i64) [t] I I) (by simp only [byt3, List.length_append, List.length_cons, List.length_nil]; omega) (by simp only [List.length_append, List.length_cons, List.length_nil]; omega) ?_)))
            intro v2
            refine pull1 (drop0 (d_held (H2 2 5 I) (Pre.fact (fun _ h => rd_sv (h.rd 0 I)) ?_)))
            rintro ⟨sv, rfl⟩
            refine pull5 (d_t I (e_putT (kf := kI) (vf := vS) b (sv, (q.2 ++ [t])) I I U254 keyI I I I (d_nil (Kt (Cs I (Ak I (c_ret (k_then_ret (pull2 (drop0 (pull5 (pull1 (pull5 (pull5 (pull5 (pull5 ?_))))))))))))))))
            have e2 : ({ S with vL := v, ln := (Mo.leave (M.put i { vw f with pins := (vw f).pins + 1, ref := true }) t).line.map wn, fl := S.fl.set i ({ f with pins := f.pins + 1, ref := true } : FC), ld := mput b (sv, (q.2 ++ [t])) S.ld } : CS).rows = S.rows.set j (lrow (b, (sv, (q.2 ++ [t])))) := by rw [rows_set, ← hpu]; rfl
            refine r_one I I ?_
            exact fun _ h => ⟨({ S with vL := v, ln := (Mo.leave (M.put i { vw f with pins := (vw f).pins + 1, ref := true }) t).line.map wn, fl := S.fl.set i ({ f with pins := f.pins + 1, ref := true } : FC), ld := mput b (sv, (q.2 ++ [t])) S.ld } : CS), by rw [hu], ⟨by rw [hu]; exact hR2.wait t b sv _ (by rw [show Mo.told (Mo.leave (M.put i { vw f with pins := (vw f).pins + 1, ref := true }) t) b = M.told b from rfl, ht]), fun _ hG => hG.set_same hfi rfl⟩, by
                  have h2 := St.pushT (pre := [_, _, _, _, _]) (T := S.rows) (by rw [rows_len]; exact (List.getElem?_eq_some_iff.1 hj).1) h
                  rw [← e2] at h2; exact h2⟩
end Go.Proofs.YtloldofjddbjoaaGreat
namespace Go.Proofs.YtloldofjddbjoaaGreat
open Go.Sep Go.RowKit Tryz
def fE : FC := ⟨0, -1, -1, 0, false, false, nv0⟩
theorem vw_fE : vw fE = free0 := rfl
theorem fst1_snoc {α : Type} {p : α → Bool} {l : List α} {i : Nat} {x : α} (h : l[i]? = some x) : fst1 p (l.take (i + 1)) = match fst1 p (l.take i) with | some k => some k | none => if p x = true then some i else none := by
  have hlt := (List.getElem?_eq_some_iff.1 h).1
  have hl : (l.take i).length = i := by rw [List.length_take]; omega
  unfold fst1
  rw [List.take_add_one, h, List.findIdx?_append]
  cases hf : (l.take i).findIdx? p with
  | some k => rfl
  | none =>
    simp only [Option.none_or, Option.toList, List.findIdx?_cons, List.findIdx?_nil, hl]
    cases p x <;> simp
theorem cls_head (M : Mo) (t : Int) : ∀ i, i ≤ M.fr.length → (cls M t i).head? = fst1 (isC t) (M.fr.take i)
  | 0, _ => rfl
  | i + 1, h => by
    obtain ⟨y, hy⟩ : ∃ y, M.fr[i]? = some y := ⟨_, List.getElem?_eq_getElem (by omega)⟩
    rw [fst1_snoc hy, cls_succ, at_eq hy, ← cls_head M t i (by omega)]
    cases hc : cls M t i with
    | nil => cases isC t y <;> simp
    | cons a l => cases isC t y <;> simp
theorem cls_first (M : Mo) (t : Int) : fst1 (isC t) M.fr = (cls M t M.fr.length).head? := by rw [cls_head M t _ (Nat.le_refl _), List.take_length]
theorem mem_cls {M : Mo} {t : Int} {i n : Nat} : i ∈ cls M t n ↔ i < n ∧ isC t (M.at' i) = true := by
  unfold cls; rw [List.mem_filter, List.mem_range]
def giveL (fl : List FC) (l : List Nat) : List FC := l.foldl (fun a k => a.set k fE) fl
theorem giveL_get : ∀ (l : List Nat) (fl : List FC) (i : Nat), (giveL fl l)[i]? = if i ∈ l then (fl[i]?).map (fun _ => fE) else fl[i]?
  | [], fl, i => by simp [giveL]
  | k :: l, fl, i => by
    show (giveL (fl.set k fE) l)[i]? = _
    rw [giveL_get l (fl.set k fE) i, List.getElem?_set]
    by_cases e : k = i
    · subst e
      by_cases hlt : k < fl.length
      · simp [hlt]
      · simp [hlt]
    · simp [e, Ne.symm e]
theorem giveL_len (l : List Nat) (fl : List FC) : (giveL fl l).length = fl.length := by
  induction l generalizing fl with
  | nil => rfl
  | cons k l ih => show (giveL (fl.set k fE) l).length = _; rw [ih, List.length_set]
theorem give_map {S : CS} {M : Mo} (h : Rel S M) (t : Int) : (giveL S.fl (cls M t M.fr.length)).map vw = (M.give t).fr := by
  refine List.ext_getElem? (fun i => ?_)
  show _ = (M.fr.map (fun f => if isC t f = true then free0 else f))[i]?
  rw [List.getElem?_map, giveL_get, List.getElem?_map, ← h.fr, List.getElem?_map]
  cases hf : S.fl[i]? with
  | none => split <;> rfl
  | some f =>
    have hv := h.vw_at hf
    have hlt := (List.getElem?_eq_some_iff.1 hv).1
    have hm : i ∈ cls M t (S.fl.map vw).length ↔ isC t (vw f) = true := by rw [h.fr, mem_cls, at_eq hv]; exact ⟨fun e => e.2, fun e => ⟨hlt, e⟩⟩
    by_cases hc : isC t (vw f) = true
    · rw [if_pos (hm.2 hc)]; simp [hc, vw_fE]
    · rw [if_neg (fun e => hc (hm.1 e))]; simp [hc]
theorem give_find {M : Mo} {B : Nat} (h : M.Ok B) (t b : Int) : (M.give t).find b = M.find b := by
  show fst1 (isB b) (M.fr.map (fun f => if isC t f = true then free0 else f)) = _
  rw [fst1_map]
  unfold Mo.find
  congr 1
  funext f
  split
  · rename_i hc
    unfold isC at hc
    simp only [Bool.and_eq_true, decide_eq_true_eq] at hc
    unfold isB free0
    simp only [hc.1]
    simp
  · rfl
theorem Rel.give {S : CS} {M : Mo} {B : Nat} (h : Rel S M) (hO : M.Ok B) (t : Int) : Rel { S with fl := giveL S.fl (cls M t M.fr.length) } (M.give t) :=
  ⟨give_map h t, h.ln, h.hd, fun b => by rw [give_find hO]; exact h.at' b, h.ld, h.nd, h.na⟩
theorem name_no1 {M : Mo} {t b : Int} (nd : Nd) (h : (bkB b && (M.find b).isNone) = false) : M.name t b nd = (false, M) := by unfold Mo.name; rw [h]
theorem name_no2 {M : Mo} {t b : Int} (nd : Nd) (h : fst1 (isC t) M.fr = none) : M.name t b nd = (false, M) := by unfold Mo.name; rw [h]; cases (bkB b && (M.find b).isNone) <;> rfl
theorem name_yes {M : Mo} {t b : Int} {k : Nat} (nd : Nd) (h : (bkB b && (M.find b).isNone) = true) (hk : fst1 (isC t) M.fr = some k) : M.name t b nd = (true, M.put k ⟨2, b, 0, 0, true, true, nd⟩) := by unfold Mo.name; rw [h, hk]
def mo0 (n : Nat) : Mo := ⟨List.replicate n free0, [], [], 0⟩
theorem NIn.give {G : List Ent} {fl : List FC} (h : NIn G fl) (l : List Nat) : NIn G (giveL fl l) := by
  induction l generalizing fl with
  | nil => exact h
  | cons k l ih => exact ih (h.set (NvIn.zero _))
theorem st_iff {s s' : Int} (h1 : ¬ (s = 1 ∨ s = 2)) (h2 : ¬ (s' = 1 ∨ s' = 2)) : (s = 1 ∨ s = 2) ↔ (s' = 1 ∨ s' = 2) := ⟨fun e => absurd e h1, fun e => absurd e h2⟩
theorem claim_spec {bc : Nat} {S : CS} {M : Mo} {B : Nat} (hR : Rel S M) (hO : M.Ok B) (t : Int) : Con Tryz.prog 207 [.pointer (some ⟨bc, 0, none⟩), .int .i64 t] (fun _ => True) (S.H bc) (fun S' : CS => .bool (M.claim t).1) (fun S' => Rel S' (M.claim t).2 ∧ ∀ G, NIn G S.fl → NIn G S'.fl) (fun S' => S'.H bc) := by
  intro w hE hH
  refine enter (n := 28) (vs := [.pointer (some ⟨bc, 0, none⟩), .int .i64 t]) (St w (dom (S.H bc)) (cellsE bc 257 (S).cells :: rowE (S).vF 259 FC.enc (S).fl :: mapT (S).bA kI kI (S).at' :: mapT (S).bL kI vS (S).ld :: rowE (S).vL 277 Wn.enc (S).ln :: (S).rows)) func207 I I I (St.init hH) ?_
  refine Cs I (Ak I (Cs I (Lm I (Lq I (q_build ((wn (t, -1)).c) I I (fun w => by kernel_rfl)) (l_e I (e_alloc I I I zeroValue277 ?_))))))
  intro bw
  refine cells_eq (show _ = (⟨0, 0, false⟩ : Wn).c from I) (l_e I (e_storeAgg I I Z277 I I I (Wn.one _) (by show 0 + 3 ≤ 3; decide) (cells_eq (show Sep.splice _ 0 ((wn (t, -1))).c = ((wn (t, -1))).c from Sep.splice_all I) (Ns (Cs I (Lm I (Lq I (q_loadCAgg ((wn (t, -1)).c) I G277 Z277 I (Hat 0 I) (I) (I)) (l_e I (e_call_00 (may_spec hR hO t (-1) (i64_in (by decide) (by decide))) I I I call242 I (fun _ h => CR.ofm (S := S) h (fun e he => List.mem_cons_of_mem _ (he))) ?_)))))))))
  intro _ _
  refine Lq I (q_not I I) (Nk ?_)
  refine Pre.caseB 12 I (fun hm => ?_) (fun hm => ?_)
  · try simp only [B4] at hm
    have hu := claim_no (M := M) (t := t) hm
    refine c_true I (Cs I (Ak I (c_ret (k_then_ret (drop0 (r_one I I ?_))))))
    exact fun _ h => ⟨S, by rw [hu], ⟨by rw [hu]; exact hR, fun _ h => h⟩, h⟩
  · try simp only [B4] at hm
    refine c_false I (c_skip (Kt (Cs I (Lm I (Lm I (l_e I (e_call_00 (free_spec hR hO t) I I I call244 I (fun _ h => CR.ofm (S := S) h (fun e he => List.mem_cons_of_mem _ (he))) ?_)))))))
    intro _ _
    refine Ak I (c_seq (c_seq ?_))
    refine opt_cases (M.takes t) (fun hk => ?_) (fun k hk => ?_)
    · have hu := claim_queue hm hk
      refine Sv' 6 (.pointer none) I (by rw [hk]; rfl) (Cr I (Lm I (Lq I (q_eqp I U284 I I) (Nk (Sb 17 true I (I) (c_true I (Cs I (Lm I (Lq I (q_loadCAgg ((wn (t, -1)).c) I G277 Z277 I (Hat 0 I) (I) (I)) (l_e I (e_callH [_] (ask_spec hR hO t (-1)) I I I call245 I Tt ?_)))))))))))
      intro v _
      refine Pre.world (St _ _ (_ :: cellsE bc 257 (({ S with vL := v, ln := (M.ask t (-1)).line.map wn } : CS)).cells :: rowE (({ S with vL := v, ln := (M.ask t (-1)).line.map wn } : CS)).vF 259 FC.enc (({ S with vL := v, ln := (M.ask t (-1)).line.map wn } : CS)).fl :: mapT (({ S with vL := v, ln := (M.ask t (-1)).line.map wn } : CS)).bA kI kI (({ S with vL := v, ln := (M.ask t (-1)).line.map wn } : CS)).at' :: mapT (({ S with vL := v, ln := (M.ask t (-1)).line.map wn } : CS)).bL kI vS (({ S with vL := v, ln := (M.ask t (-1)).line.map wn } : CS)).ld :: rowE (({ S with vL := v, ln := (M.ask t (-1)).line.map wn } : CS)).vL 277 Wn.enc (({ S with vL := v, ln := (M.ask t (-1)).line.map wn } : CS)).ln :: (({ S with vL := v, ln := (M.ask t (-1)).line.map wn } : CS)).rows)) Ih ?_
      refine Nk (Cs I (Ak I (c_ret (k_then_ret (drop0 (r_one I I ?_))))))
      exact fun _ h => ⟨({ S with vL := v, ln := (M.ask t (-1)).line.map wn } : CS), by rw [hu], ⟨by rw [hu]; exact hR.line v _, fun _ h => h⟩, h⟩
    · have hu := claim_some hm hk
      obtain ⟨y0, hy0, hys, hya⟩ := takes_at hk
      obtain ⟨f0, hfk, hfy⟩ := hR.get hy0
      have hkl := (List.getElem?_eq_some_iff.1 hfk).1
      have hfb : f0.blk = -1 := by have := hO.none' y0 (List.mem_of_getElem? hy0) (.inl hys); rw [← hfy] at this; exact this
      have hfs : f0.st = 0 := by rw [← hfy] at hys; exact hys
      refine Sv' 6 (fp S.vF k) I (by rw [hk]; rfl) (Cr I (Lm I (Lq I (q_eqp I U284 I I) (Nk (Sb 17 false I (I) (c_false I (c_skip (Kt (Cs I (Lm I (Lm I (l_e I (e_callH [_] (leave_spec hR hO t) I I I call243 I Tt ?_)))))))))))))
      intro v _
      refine Pre.world (St _ _ (_ :: cellsE bc 257 (({ S with vL := v, ln := (M.leave t).line.map wn } : CS)).cells :: rowE (({ S with vL := v, ln := (M.leave t).line.map wn } : CS)).vF 259 FC.enc (({ S with vL := v, ln := (M.leave t).line.map wn } : CS)).fl :: mapT (({ S with vL := v, ln := (M.leave t).line.map wn } : CS)).bA kI kI (({ S with vL := v, ln := (M.leave t).line.map wn } : CS)).at' :: mapT (({ S with vL := v, ln := (M.leave t).line.map wn } : CS)).bL kI vS (({ S with vL := v, ln := (M.leave t).line.map wn } : CS)).ld :: rowE (({ S with vL := v, ln := (M.leave t).line.map wn } : CS)).vL 277 Wn.enc (({ S with vL := v, ln := (M.leave t).line.map wn } : CS)).ln :: (({ S with vL := v, ln := (M.leave t).line.map wn } : CS)).rows)) Ih ?_
      refine Nk (Cs I (Lm I (Lm I (Lq I (q_build ((⟨3, -1, t, 1, false, false, nv0⟩ : FC).c) I I (fun w => by kernel_rfl)) (Lc I (pull2 (l_e I (e_storeVAgg k ((⟨3, -1, t, 1, false, false, nv0⟩ : FC)) I I Z259 I I I I (by omega) (Nk (Cs I (Ak I (c_ret (pull1 (drop0 (pull4 (pull4 (pull4 (pull3 (pull4 (r_one I I ?_))))))))))))))))))))
      exact fun _ h => ⟨({ S with vL := v, ln := (M.leave t).line.map wn, fl := S.fl.set k (⟨3, -1, t, 1, false, false, nv0⟩ : FC) } : CS), by rw [hu], ⟨by rw [hu]; exact (hR.line v (M.leave t).line).put_same (M := M.leave t) (f' := (⟨3, -1, t, 1, false, false, nv0⟩ : FC)) hfk I hfb.symm (st_iff (show ¬ ((3 : Int) = 1 ∨ (3 : Int) = 2) by decide) (by rw [hfs]; decide)), fun _ hG => hG.set (.zero _)⟩, h⟩
theorem empty_spec  : Con Tryz.prog 144 [] (fun _ => True) [] (fun _ : Unit => .agg fE.c.toArray) (fun _ => True) (fun _ => []) := by
  intro w hE hH
  refine enter (n := 2) (vs := []) (St w [] []) func144 I I I (St.init hH) ?_
  refine Cs I (l_e I (e_alloc I I I zeroValue259 ?_))
  intro be
  refine cells_eq (show _ = (⟨0, 0, 0, 0, false, false, nv0⟩ : FC).c from I) (Nk (Cs I (Lq I (q_build (fE.c) I I (fun w => by kernel_rfl)) (l_e I (e_storeAgg I I Z259 I I I (FC.one _) (by show 0 + 11 ≤ 11; decide) (cells_eq (show Sep.splice _ 0 (fE).c = (fE).c from Sep.splice_all I) (Nk (c_ret (r_res1 I (res_cellA I isAgg259 Z259 (Hat 0 I) (I)) ?_)))))))))
  exact fun _ h => ⟨(), rfl, trivial, h.nothing⟩
theorem give_spec {bc : Nat} {S : CS} {M : Mo} {B : Nat} (hR : Rel S M) (hO : M.Ok B) (t : Int) : Con Tryz.prog 263 [.pointer (some ⟨bc, 0, none⟩), .int .i64 t] (fun _ => True) (S.H bc) (fun S' : CS => .int .i64 (M.claims t : Int)) (fun S' => Rel S' (M.give t) ∧ ∀ G, NIn G S.fl → NIn G S'.fl) (fun S' => S'.H bc) := by
  intro w hE hH
  refine enter (n := 23) (vs := [.pointer (some ⟨bc, 0, none⟩), .int .i64 t]) (St w (dom (S.H bc)) (cellsE bc 257 (S).cells :: rowE (S).vF 259 FC.enc (S).fl :: mapT (S).bA kI kI (S).at' :: mapT (S).bL kI vS (S).ld :: rowE (S).vL 277 Wn.enc (S).ln :: (S).rows)) func263 I I I (St.init hH) ?_
  refine Cs I (Ak I (Cs I (Lm I (Lm I ?_))))
  obtain ⟨ks, hks⟩ : ∃ ks, ks = cls M t M.fr.length := ⟨_, rfl⟩
  have hkl : ks.length ≤ M.fr.length := by rw [hks]; exact cls_len M t _
  have h64 := hO.n64
  have hfl := hR.len
  refine l_e I (e_call_01 (claimed_spec hR hO t) I I I call291 I (fun _ h => CR.ofm (S := S) h (fun e he => he)) ?_)
  intro vk _
  rw [← hks]
  refine Ak I (c_seq (Cs I (Lm I (Lq I (q_lenV I U379 I (Hrd 0 I)) (Lm I (Nk (c_block ?_)))))))
  refine c_loop1 (fun (j : Nat) => [(0, .pointer (some ⟨bc, 0, none⟩)), (5, vk), (11, vk), (12, .int .i64 (ks.length : Int)), (13, .int .i64 (j : Int))]) (fun (j : Nat) => St w (dom (S.H bc)) (rowE vk 284 (encFp S.vF) ks :: cellsE bc 257 (S).cells :: rowE (S).vF 259 FC.enc (giveL S.fl (ks.take j)) :: mapT (S).bA kI kI (S).at' :: mapT (S).bL kI vS (S).ld :: rowE (S).vL 277 Wn.enc (S).ln :: (S).rows)) (fun (j : Nat) => j ≤ ks.length) (fun (j : Nat) => ks.length - j) (0) (Nat.zero_le _) (Sn I (Sn I (Sn I (Sn I (Sn I (Sub.nil)))))) Ih ?_
  intro j hj0
  refine Cs I (Lq I (q_lss I I I) (Ns ?_))
  refine Pre.caseB 14 I (fun h1 => ?_) (fun h1 => ?_)
  · try simp only [B4] at h1
    obtain ⟨i, hj⟩ : ∃ i, ks[j]? = some i := ⟨_, List.getElem?_eq_getElem (by omega)⟩
    have hil : i < M.fr.length := by have := List.mem_of_getElem? hj; rw [hks] at this; exact (mem_cls.1 this).1
    have hgl := giveL_len (ks.take j) S.fl
    have hgs : giveL S.fl (ks.take (j + 1)) = (giveL S.fl (ks.take j)).set i fE := by unfold giveL; rw [List.take_add_one, hj, List.foldl_append]; rfl
    refine c_true I (c_skip (Ks (c_block (Cs I (Lq I (q_indexV j I U379 sizeOf284 I (Hrd 0 I) I I (by omega)) (Lq I (q_loadV j 0 I isAgg284 I I (Hrd 0 I) hj I) (Ak I (Cr I (Lm I (l_e I (e_call_00 (empty_spec) I I I call144 I Tt ?_)))))))))))
    intro _ _
    refine Lc I (pull2 (l_e I (e_storeVAgg i fE I I Z259 I I I I (by omega) (l_nil (k_block (Kt (Cr I (Lq I (q_inc I I I (by omega)) (Lm I (l_nil (pull5 (pull5 (pull5 (pull3 (pull5 (pull5 ?_))))))))))))))))
    exact k_round (j + 1) (by omega) (by omega) (Sub.cons I (Sub.cons I (Sub.cons I (Sub.cons I (Sub.cons I (Sub.nil)))))) (fun _ h => by rw [hgs]; exact h)
  · try simp only [B4] at h1
    rw [List.take_of_length_le (show ks.length ≤ j by omega)]
    refine c_false I (c_exit (k_then_exit (k_then_exit (k_block_exit (Kt (Cs I (Lm I (Lq I (q_lenV I U379 I (Hrd 0 I)) (Ak I (c_ret (drop0 (r_one I I ?_))))))))))))
    exact fun _ h => ⟨{ S with fl := giveL S.fl ks }, congrArg (fun z => Ending.returned (Value.int .i64 z)) (by rw [hks, cls_all]), ⟨by rw [hks]; exact hR.give hO t, fun _ hG => hG.give _⟩, h⟩
theorem Rel.zero (vF vL : Value) (bA bL n : Nat) : Rel ⟨vF, List.replicate n fE, bA, [], bL, [], vL, [], 0⟩ (mo0 n) :=
  ⟨by show (List.replicate n fE).map vw = List.replicate n free0; rw [List.map_replicate]; rfl, rfl, rfl, fun b => by
    show none = Option.map _ (fst1 (isB b) (List.replicate n free0))
    rw [fst1_none (fun z hz => by rw [(List.mem_replicate.1 hz).2]; unfold isB free0; simp)]; rfl, fun b => rfl, List.nodup_nil, List.nodup_nil⟩
theorem NIn.zero (G : List Ent) (n : Nat) : NIn G (List.replicate n fE) := fun f hf => by rw [(List.mem_replicate.1 hf).2]; exact NvIn.zero _
theorem rep_snoc {α : Type} (n : Nat) (x : α) : List.replicate n x ++ [x] = List.replicate (n + 1) x := (List.replicate_succ' ..).symm
def c0 (v : Value) (bA bL : Nat) : List Value := [v, .map (some bA), .map (some bL), nil0, .int .i64 0]
theorem new_spec (n : Nat) (h1n : 1 ≤ n) (hn : n ≤ 64) : Con Tryz.prog 101 [.int .i64 (n : Int)] (fun _ => True) [] (fun r : Nat × CS => .tuple #[.pointer (some ⟨r.1, 0, none⟩), .int .i64 0]) (fun r => Rel r.2 (mo0 n) ∧ ∀ G, NIn G r.2.fl) (fun r => r.2.H r.1) := by
  intro w hE hH
  refine enter (n := 30) (vs := [.int .i64 (n : Int)]) (St w [] []) func101 I I I (St.init hH) ?_
  refine Cs I (Las I (Ak I (c_seq (Cs I (Lm I (Lq I (q_lss I I I) (Lm I (Sb 7 false I (decide_eq_false (by omega)) (Lm I (Lq I (q_gtr I I I) (Lq I (q_pick_f I I I) (Nk (Sb 10 false I (decide_eq_false (by omega)) (c_false I (c_skip (Kt (Cs I (l_e I (e_makeMapT kI kI I I I ?_)))))))))))))))))))
  intro bA
  refine l_e I (e_makeMapT kI vS I I I ?_)
  intro bM
  refine Lq I (q_build (c0 nil0 bA bM) I I (fun w => by kernel_rfl)) (l_e I (e_box I I I I ?_))
  intro bc
  refine cells_eq (show _ = c0 nil0 bA bM from I) (Ak I (c_seq (Cs I (Lm I (Lm I (Nk (c_block (row0 277 Wn.enc none (row0 259 FC.enc none (pull1 (pull3 (pull4 (pull3 (pull4 ?_))))))))))))))
  refine c_loop2 (fun (i : Nat) (v : Value) => [(4, .pointer (some ⟨bc, 0, none⟩)), (15, .int .i64 (n : Int)), (16, .int .i64 (i : Int))]) (fun (i : Nat) (v : Value) => St w [] [cellsE bc 257 (c0 v bA bM), rowE v 259 FC.enc (List.replicate i fE), mapT bA kI kI [], mapT bM kI vS [], rowE nil0 277 Wn.enc []]) (fun (i : Nat) (v : Value) => i ≤ n) (fun (i : Nat) (v : Value) => n - i) (0) (.slice none 0 0) (Nat.zero_le _) (Sn I (Sn I (Sn I (Sub.nil)))) Ih ?_
  intro i v hi
  refine c_seq ?_
  have hrl : (List.replicate i fE).length = i := List.length_replicate ..
  refine Cr I (Lq I (q_lss I I I) (Ns ?_))
  refine Pre.caseB 17 I (fun h1 => ?_) (fun h1 => ?_)
  · try simp only [B4] at h1
    refine c_true I (c_skip (Ks (c_block (D4 [(0,O),(1,O),(2,O),(3,O),(4,O),(5,V),(6,V),(7,V),(8,W),(9,W),(10,W)] [8, 9, 10] [(_,O),(_,O),(_,O),(_,O),(_,O),(_,V),(_,V),(_,V),(_,W),(_,W),(_,W)] (fun w2 => (cellsE bc 257 (c0 v bA bM)).at w2) I I I I St.drawn (Hat 0 I) (Dm I (Dm I (Dc I (Dfa U257 I Z253 I (Dq I (q_loadC I G253 I Ih I) (d_e I (e_call_00 (empty_spec) I I I call144 I Tt ?_)))))))))))
    intro _ _
    refine d_held (Hat 0 I) (d_e I (e_buildSliceV (sz := 11) [.tmp 23] I I I I I U253 Z259 I zeroValue259 I ?_))
    intro b2
    refine d_held (Hat 1 I) (pull2 (d_e I (e_append I I I U253 U253 info259 I I I I I (fun _ h => lit_rd (h.at 1 I) FC.enc [fE] I I) (by simp only [byt259, List.length_append, List.length_cons, List.length_nil]; omega) (by simp only [List.length_append, List.length_cons, List.length_nil]; omega) ?_)))
    intro v2
    refine row_eq (rep_snoc i fE) (pull1 (drop0 (d_held (Hat 1 I) (d_t I (e_q I I (q_nilCheck I I) (d_t I (e_q I I (q_fieldAddr I U257 I Z253 I I) (Pre.fact (fun _ h => rd_sv (h.rd 0 I)) ?_))))))))
    rintro ⟨sv, rfl⟩
    refine pull1 (d_t I (e_store I I Z253 I I I (Nat.le_of_ble_eq_true I) (cells_eq (show _ = c0 sv.v bA bM from I) (d_nil (k_block (Kt (Cr I (Lq I (q_inc I I I (by omega)) (Lm I (l_nil (pull4 (pull4 (pull4 (pull4 (pull4 ?_)))))))))))))))
    exact k_round ((i + 1, sv.v)) (by dsimp only; omega) (by dsimp only; omega) (Sub.cons I (Sub.cons I (Sub.cons I (Sub.nil)))) (fun _ h => h)
  · try simp only [B4] at h1
    have hin : i = n := by omega
    subst hin
    refine c_false I (c_exit (k_then_exit (k_then_exit (k_block_exit (Kt (Cs I (Lm I (Las I (Ak I (c_ret (r_many (rs := [.tmp 2, .tmp 3]) I I ?_)))))))))))
    exact fun _ h => ⟨(bc, ⟨v, List.replicate i fE, bA, [], bM, [], nil0, [], 0⟩), rfl, ⟨Rel.zero _ _ _ _ _, fun G => NIn.zero G i⟩, h⟩
theorem name_spec {bc : Nat} {S : CS} {M : Mo} {B : Nat} (hR : Rel S M) (hO : M.Ok B) (t b : Int) (nv : NV) (hn : nv.d.Sm 65536) : Con Tryz.prog 268 [.pointer (some ⟨bc, 0, none⟩), .int .i64 t, .int .i64 b, .agg nv.c.toArray] (fun _ => True) (nrows nv ++ S.H bc) (fun r : CS × NV => .bool (M.name t b nv.d).1) (fun r => Rel r.1 (M.name t b nv.d).2 ∧ ∀ G, (∀ e ∈ nrows r.2, e ∈ G) → NIn G S.fl → NIn G r.1.fl) (fun r => nrows r.2 ++ nrows nv ++ r.1.H bc) := by
  intro w hE hH
  refine enter (n := 40) (vs := [.pointer (some ⟨bc, 0, none⟩), .int .i64 t, .int .i64 b, .agg nv.c.toArray]) (St w (dom (rowEn nv.s.e nv.d.es :: rowKi nv.s.k nv.d.kids :: rowPi nv.s.p nv.d.piv :: rowMs nv.s.m nv.d.msgs :: S.H bc)) (rowEn nv.s.e nv.d.es :: rowKi nv.s.k nv.d.kids :: rowPi nv.s.p nv.d.piv :: rowMs nv.s.m nv.d.msgs :: cellsE bc 257 (S).cells :: rowE (S).vF 259 FC.enc (S).fl :: mapT (S).bA kI kI (S).at' :: mapT (S).bL kI vS (S).ld :: rowE (S).vL 277 Wn.enc (S).ln :: (S).rows)) func268 I I I (St.init hH) ?_
  refine Cs I (l_e I (e_box I I I I ?_))
  intro bn
  refine cells_eq (show _ = nv.c from I) (Ak I (Cs I (Lm I (Lm I ?_))))
  obtain ⟨ks, hks⟩ : ∃ ks, ks = cls M t M.fr.length := ⟨_, rfl⟩
  have hcf := cls_first M t
  rw [← hks] at hcf
  refine l_e I (e_call_01 (claimed_spec hR hO t) I I I call291 I (fun _ h => CR.ofm (S := S) h (fun e he => List.mem_cons_of_mem _ (List.mem_cons_of_mem _ (List.mem_cons_of_mem _ (List.mem_cons_of_mem _ (List.mem_cons_of_mem _ (he))))))) ?_)
  intro vk _
  rw [← hks]
  refine Ak I (c_seq (Cs I (Lm I (l_e I (e_call_00 (block_spec b) I I I call241 I Tt ?_)))))
  intro _ _
  refine Lq I (q_not I I) (Lm I ?_)
  refine Pre.caseB 16 I (fun hb => ?_) (fun hb => ?_)
  · try simp only [B4] at hb
    have hu := name_no1 (M := M) (t := t) (b := b) nv.d (by rw [hb]; rfl)
    refine Lx I (Lx I (Lx I (Lq I (q_pick_t I I I) (Lm I (Lx I (Lx I (Lx I (Lx I (Lq I (q_pick_t I I I) (Nk (c_true I (Cs I (Ak I (c_ret (k_then_ret (drop0 (drop0 (row0 154 Ms.enc none (row0 77 (Kv.enc 8) none (row0 3 (encI .i64) none (row0 79 En.enc none (r_one I I ?_))))))))))))))))))))))
    exact fun _ h => ⟨(S, ⟨n40, ndE⟩), by rw [hu], ⟨by rw [hu]; exact hR, fun _ _ h => h⟩, h⟩
  · try simp only [B4] at hb
    refine Lm I (Lq I (q_lenV I U379 I (Hrd 0 I)) (Lq I (q_eql I I I) (Lq I (q_pick_f I I I) (Lm I ?_))))
    refine list_cases ks (fun hk => ?_) (fun k r hk => ?_)
    · have hk0 : ks.length = 0 := by rw [hk]; rfl
      refine Sb 21 true I (decide_eq_true (by omega)) (Lx I (Lx I (Lx I (Lx I (Lq I (q_pick_t I I I) (Nk (c_true I (Cs I (Ak I (c_ret (k_then_ret ?_)))))))))))
      have hu := name_no2 (M := M) (t := t) (b := b) nv.d (by rw [hcf, hk]; rfl)
      refine drop0 (drop0 (row0 154 Ms.enc none (row0 77 (Kv.enc 8) none (row0 3 (encI .i64) none (row0 79 En.enc none (r_one I I ?_))))))
      exact fun _ h => ⟨(S, ⟨n40, ndE⟩), by rw [hu], ⟨by rw [hu]; exact hR, fun _ _ h => h⟩, h⟩
    · have hk0 : 0 < ks.length := by rw [hk]; simp
      have hj : ks[0]? = some k := by rw [hk]; rfl
      refine Sb 21 false I (decide_eq_false (by omega)) (Lm I (Lm I (l_e I (e_call_00 (place_spec hR hO b) I I I call194 I (fun _ h => CR.ofm (S := S) h (fun e he => List.mem_cons_of_mem _ (List.mem_cons_of_mem _ (List.mem_cons_of_mem _ (List.mem_cons_of_mem _ (List.mem_cons_of_mem _ (List.mem_cons_of_mem _ (he)))))))) ?_))))
      intro _ _
      refine Lq I (q_geq I I I) (Lq I (q_pick_f I I I) (Nk ?_))
      refine Pre.caseB 26 I (fun hp => ?_) (fun hp => ?_)
      · rw [io_ge] at hp
        have hu := name_no1 (M := M) (t := t) (b := b) nv.d (by rw [← Option.not_isSome, hp, Bool.not_true, Bool.and_false])
        refine c_true I (Cs I (Ak I (c_ret (k_then_ret (drop0 (drop0 (row0 154 Ms.enc none (row0 77 (Kv.enc 8) none (row0 3 (encI .i64) none (row0 79 En.enc none (r_one I I ?_)))))))))))
        exact fun _ h => ⟨(S, ⟨n40, ndE⟩), by rw [hu], ⟨by rw [hu]; exact hR, fun _ _ h => h⟩, h⟩
      · rw [io_ge] at hp
        have hfn : M.find b = none := by cases h : M.find b with
          | none => rfl
          | some _ => rw [h] at hp; cases hp
        have hu := name_yes (M := M) (t := t) (b := b) nv.d (by rw [hb, hfn]; rfl) (by rw [hcf, hk]; rfl)
        have hkc := (mem_cls (M := M) (t := t) (i := k) (n := M.fr.length)).1 (by rw [← hks, hk]; exact List.mem_cons_self ..)
        obtain ⟨y0, hy0⟩ : ∃ y, M.fr[k]? = some y := ⟨_, List.getElem?_eq_getElem hkc.1⟩
        obtain ⟨f0, hfk, hfy⟩ := hR.get hy0
        have hkl := (List.getElem?_eq_some_iff.1 hfk).1
        have hys : y0.st = 3 := by have := hkc.2; rw [at_eq hy0] at this; unfold isC at this; simp only [Bool.and_eq_true, decide_eq_true_eq] at this; exact this.1
        refine c_false I (c_skip (Ks (D4 [(0,O),(1,O),(2,O),(3,O),(4,O),(5,V),(6,O),(7,W),(8,W)] [7, 8] [(_,O),(_,O),(_,O),(_,O),(_,O),(_,V),(_,O),(_,W),(_,W)] (fun w2 => (cellsE bn 135 nv.c).at w2 ∧ RdV w2 vk (encFp S.vF) ks) I I I I St.drawn (fun _ h => ⟨h.at 1 rfl, h.rd 0 rfl⟩) (Dm I (Dq I (q_indexV 0 I U379 sizeOf284 I (fun _ h => h.2) I I (by omega)) (Dq I (q_loadV 0 0 I isAgg284 I I (fun _ h => h.2) hj I) (Dm I (Dq I (q_loadCAgg (nv.c) I G135 Z135 I (fun _ h => h.1) (I) (I)) (d_e I (e_call_04 (own_spec nv hn) I I I call155 I (fun _ h => ⟨h.rd 2 rfl, h.rd 3 rfl, h.rd 4 rfl, h.rd 5 rfl⟩) ?_))))))))))
        intro s _
        refine d_held (fun _ h => ⟨h.at 5 rfl, h.rd 4 rfl⟩) (Dq I (q_build ((⟨2, b, -1, 0, true, true, ⟨s, nv.d⟩⟩ : FC).c) I I (fun w => by kernel_rfl)) (d_t I (e_q I I (q_nilCheck I I) (pull11 (d_t I (e_storeVAgg k ((⟨2, b, -1, 0, true, true, ⟨s, nv.d⟩⟩ : FC)) I I Z259 I I I I (by omega) (d_nil (Kt (Cs I (Lm I (Lm I (Lq I (q_indexV 0 I U379 sizeOf284 I (Hrd 5 I) I I (by omega)) (Lq I (q_loadV 0 0 I isAgg284 I I (Hrd 5 I) hj I) (pull14 (pull14 (pull14 (pull3 (pull14 (pull14 (pull14 (pull14 (pull14 (pull14 ?_)))))))))))))))))))))))
        refine pull14 (pull14 (pull14 (pull14 (pull14 ?_))))
        have hfk2 : ({ S with fl := S.fl.set k (⟨2, b, -1, 0, true, true, ⟨s, nv.d⟩⟩ : FC) } : CS).fl[k]? = some (⟨2, b, -1, 0, true, true, ⟨s, nv.d⟩⟩ : FC) := List.getElem?_set_self hkl
        have hf64 : ({ S with fl := S.fl.set k (⟨2, b, -1, 0, true, true, ⟨s, nv.d⟩⟩ : FC) } : CS).fl.length ≤ 65536 := by
          show (S.fl.set k _).length ≤ _
          rw [List.length_set, hR.len]; have := hO.n64; omega
        refine Pre.world (St _ _ (_ :: _ :: _ :: _ :: _ :: _ :: _ :: _ :: _ :: _ :: CS.H bc ({ S with fl := S.fl.set k (⟨2, b, -1, 0, true, true, ⟨s, nv.d⟩⟩ : FC) } : CS))) Ih ?_
        refine l_e I (e_callH [_, _, _, _, _, _, _, _, _, _] (placef_spec (S := ({ S with fl := S.fl.set k (⟨2, b, -1, 0, true, true, ⟨s, nv.d⟩⟩ : FC) } : CS)) hfk2 hf64) I I I call246 I Tt ?_)
        intro _ _
        refine Pre.world (St _ _ (_ :: _ :: _ :: _ :: _ :: _ :: _ :: _ :: _ :: _ :: cellsE bc 257 (({ S with fl := S.fl.set k (⟨2, b, -1, 0, true, true, ⟨s, nv.d⟩⟩ : FC), at' := mput b (k : Int) S.at' } : CS)).cells :: rowE (({ S with fl := S.fl.set k (⟨2, b, -1, 0, true, true, ⟨s, nv.d⟩⟩ : FC), at' := mput b (k : Int) S.at' } : CS)).vF 259 FC.enc (({ S with fl := S.fl.set k (⟨2, b, -1, 0, true, true, ⟨s, nv.d⟩⟩ : FC), at' := mput b (k : Int) S.at' } : CS)).fl :: mapT (({ S with fl := S.fl.set k (⟨2, b, -1, 0, true, true, ⟨s, nv.d⟩⟩ : FC), at' := mput b (k : Int) S.at' } : CS)).bA kI kI (({ S with fl := S.fl.set k (⟨2, b, -1, 0, true, true, ⟨s, nv.d⟩⟩ : FC), at' := mput b (k : Int) S.at' } : CS)).at' :: mapT (({ S with fl := S.fl.set k (⟨2, b, -1, 0, true, true, ⟨s, nv.d⟩⟩ : FC), at' := mput b (k : Int) S.at' } : CS)).bL kI vS (({ S with fl := S.fl.set k (⟨2, b, -1, 0, true, true, ⟨s, nv.d⟩⟩ : FC), at' := mput b (k : Int) S.at' } : CS)).ld :: rowE (({ S with fl := S.fl.set k (⟨2, b, -1, 0, true, true, ⟨s, nv.d⟩⟩ : FC), at' := mput b (k : Int) S.at' } : CS)).vL 277 Wn.enc (({ S with fl := S.fl.set k (⟨2, b, -1, 0, true, true, ⟨s, nv.d⟩⟩ : FC), at' := mput b (k : Int) S.at' } : CS)).ln :: (({ S with fl := S.fl.set k (⟨2, b, -1, 0, true, true, ⟨s, nv.d⟩⟩ : FC), at' := mput b (k : Int) S.at' } : CS)).rows)) Ih ?_
        refine Nk (Cs I (Ak I (c_ret (pull4 (drop0 (pull4 (drop0 (pull12 (pull12 (pull12 (pull12 (pull12 (pull12 (pull12 (pull12 (pull12 (pull12 (pull12 (pull12 (pull12 (r_one I I ?_)))))))))))))))))))))
        exact fun _ h => ⟨(({ S with fl := S.fl.set k (⟨2, b, -1, 0, true, true, ⟨s, nv.d⟩⟩ : FC), at' := mput b (k : Int) S.at' } : CS), ⟨s, nv.d⟩), by rw [hu], ⟨by rw [hu]; exact hR.new hy0 (by rw [hys]; decide) hfn I I (.inr I), fun G hG1 hG => hG.set (.of hG1)⟩, h⟩
theorem claims_spec {bc : Nat} {S : CS} {M : Mo} {B : Nat} (hR : Rel S M) (hO : M.Ok B) (t : Int) : Con Tryz.prog 262 [.pointer (some ⟨bc, 0, none⟩), .int .i64 t] (fun _ => True) (S.H bc) (fun _ : Unit => .int .i64 (M.claims t : Int)) (fun _ => True) (fun _ => S.H bc) := by
  intro w hE hH
  refine enter (n := 9) (vs := [.pointer (some ⟨bc, 0, none⟩), .int .i64 t]) (St w (dom (S.H bc)) (cellsE bc 257 (S).cells :: rowE (S).vF 259 FC.enc (S).fl :: mapT (S).bA kI kI (S).at' :: mapT (S).bL kI vS (S).ld :: rowE (S).vL 277 Wn.enc (S).ln :: (S).rows)) func262 I I I (St.init hH) ?_
  refine Cs I (Ak I (Cs I (Lm I (Lm I ?_))))
  have hkl := cls_len M t M.fr.length
  have h64 := hO.n64
  refine l_e I (e_call_01 (claimed_spec hR hO t) I I I call291 I (fun _ h => CR.ofm (S := S) h (fun e he => he)) ?_)
  intro vk _
  refine Lq I (q_lenV I U379 I (Hrd 0 I)) (Ak I (c_ret (drop0 (r_one I I ?_))))
  exact fun _ h => ⟨(), congrArg (fun z => Ending.returned (Value.int .i64 z)) (by rw [cls_all]), trivial, h⟩
theorem ready_spec {bc : Nat} {S : CS} {M : Mo} {B : Nat} (hR : Rel S M) (hO : M.Ok B) (b : Int) : Con Tryz.prog 196 [.pointer (some ⟨bc, 0, none⟩), .int .i64 b] (fun _ => True) (S.H bc) (fun _ : Unit => .bool (M.frI b 2).isSome) (fun _ => True) (fun _ => S.H bc) := by
  intro w hE hH
  refine enter (n := 9) (vs := [.pointer (some ⟨bc, 0, none⟩), .int .i64 b]) (St w (dom (S.H bc)) (cellsE bc 257 (S).cells :: rowE (S).vF 259 FC.enc (S).fl :: mapT (S).bA kI kI (S).at' :: mapT (S).bL kI vS (S).ld :: rowE (S).vL 277 Wn.enc (S).ln :: (S).rows)) func196 I I I (St.init hH) ?_
  refine Cs I (Ak I (Cs I (Lm I (Lm I (l_e I (e_call_00 (frame_spec hR hO b 2) I I I call165 I (fun _ h => CR.ofm (S := S) h (fun e he => he)) ?_))))))
  intro _ _
  refine opt_cases (M.frI b 2) (fun hf => ?_) (fun i hf => ?_)
  · refine Sv' 7 (.pointer none) I (by rw [hf]; rfl) (Lq I (q_nep I U284 I I) (Ak I (c_ret (r_one I I ?_))))
    exact fun _ h => ⟨(), congrArg (fun z => Ending.returned (Value.bool z)) (by rw [hf]; rfl), trivial, h⟩
  · refine Sv' 7 (fp S.vF i) I (by rw [hf]; rfl) (Lq I (q_nep I U284 I I) (Ak I (c_ret (r_one I I ?_))))
    exact fun _ h => ⟨(), congrArg (fun z => Ending.returned (Value.bool z)) (by rw [hf]; rfl), trivial, h⟩
theorem isC_st {t : Int} {f : Vw} (h : f.st ≠ 3) : isC t f = false := by unfold isC; rw [decide_eq_false h]; rfl
theorem find_no {M : Mo} {b : Int} (h : M.find b = none) : ∀ (j : Nat) (z : Vw), M.fr[j]? = some z → z.st = 1 ∨ z.st = 2 → z.blk ≠ b := fun j z hz hs e => by
  have := fst1_no (p := isB b) (l := M.fr) h z (List.mem_of_getElem? hz)
  unfold isB at this
  rcases hs with hs | hs <;> simp [e, hs] at this
theorem bk_rng {b : Int} (h : bkB b = true) : 0 ≤ b ∧ b < 256 := by unfold bkB at h; simpa using h
theorem tk_rng {t : Int} (h : tkB t = true) : 0 ≤ t ∧ t < 8 := by unfold tkB at h; simpa using h
theorem mayW_tk {M : Mo} {t b : Int} (h : M.mayW t b = true) : tkB t = true := by
  unfold Mo.mayW at h; cases hh : tkB t with
  | true => rfl
  | false => rw [hh] at h; simp at h
theorem pin_ok {M : Mo} {B : Nat} (h : M.Ok B) (t b : Int) (hB : B + 1 ≤ 60000) : (M.pin t b).2.Ok (B + 1) := by
  have h1 := h.mono (Nat.le_succ B) hB
  cases hc : (bkB b && M.mayW t b) with
  | false => rw [pin_no hc]; exact h1
  | true =>
    have hbk : bkB b = true := by rw [Bool.and_eq_true] at hc; exact hc.1
    have hbr := bk_rng hbk
    cases hf : M.find b with
    | none =>
      cases hk : M.takes t with
      | none => rw [pin_queue hc hf hk]; exact ask_ok h t b ⟨by omega, by omega⟩ hB
      | some k =>
        rw [pin_read hc hf hk]
        obtain ⟨y, hy, hys, _⟩ := takes_at hk
        refine put_ok (M := M.leave t) (leave_ok h1 t) (y := y) hy (.inr (.inl rfl)) (fun e => by rcases e with e | e <;> cases e) (fun _ => hbr) (fun e => by cases e) (fun _ => rfl) ⟨by show (0 : Int) ≤ 1; decide, by show (1 : Int) ≤ _; omega⟩ (fun _ j z _ hz hs => find_no hf j z hz hs) (fun q _ e => by rw [hys] at e; cases e) (nd0_sm 1000)
    | some i =>
      obtain ⟨y, hy, hyb, hys, hya⟩ := find_at hf
      rw [pin_at hc hf hya]
      have hm := List.mem_of_getElem? hy
      have hp := h.pins y hm
      have hP : ((M.put i { y with pins := y.pins + 1, ref := true }).leave t).Ok (B + 1) := leave_ok (put_ok_same (y' := { y with pins := y.pins + 1, ref := true }) h1 hy rfl rfl rfl ⟨by show 0 ≤ y.pins + 1; omega, by show y.pins + 1 ≤ ((B + 1 : Nat) : Int); omega⟩ (h.es y hm)) t
      split
      · exact hP
      · rename_i h2
        refine ⟨hP.n1, hP.n64, hP.st, hP.none', hP.blk, hP.own, hP.own0, hP.pins, hP.uni, ?_, hP.lB, hP.ln, hP.lb, fun q hq => ?_, hP.es, hP.hw, hP.B9⟩
        · show (M.loads ++ [(t, b)]).length ≤ B + 1
          rw [List.length_append]; have := h.ll; simp; omega
        · rcases List.mem_append.1 (show q ∈ M.loads ++ [(t, b)] from hq) with hq | hq
          · exact hP.lo q hq
          · rw [List.mem_singleton] at hq; subst hq
            refine ⟨{ y with pins := y.pins + 1, ref := true }, ?_, by rcases hys with e | e; exact e; exact absurd e h2, hyb⟩
            exact List.mem_of_getElem? (show (M.fr.set i _)[i]? = some _ from List.getElem?_set_self (List.getElem?_eq_some_iff.1 hy).1)
theorem claim_ok {M : Mo} {B : Nat} (h : M.Ok B) (t : Int) (hB : B + 1 ≤ 60000) : (M.claim t).2.Ok (B + 1) := by
  have h1 := h.mono (Nat.le_succ B) hB
  cases hc : M.mayW t (-1) with
  | false => rw [claim_no hc]; exact h1
  | true =>
    have htr := tk_rng (mayW_tk hc)
    cases hk : M.takes t with
    | none => rw [claim_queue hc hk]; exact ask_ok h t (-1) ⟨by omega, by omega⟩ hB
    | some k =>
      rw [claim_some hc hk]
      obtain ⟨y, hy, hys, _⟩ := takes_at hk
      exact put_ok (M := M.leave t) (leave_ok h1 t) (y := y) hy (.inr (.inr (.inr rfl))) (fun _ => rfl) (fun e => by rcases e with e | e <;> cases e) (fun _ => htr) (fun e => absurd rfl e) ⟨by show (0 : Int) ≤ 1; decide, by show (1 : Int) ≤ _; omega⟩ (fun e => by rcases e with e | e <;> cases e) (fun q _ e => by rw [hys] at e; cases e) (nd0_sm 1000)
theorem fill_ok {M : Mo} {B : Nat} (h : M.Ok B) (b : Int) (nd : Nd) (he : nd.Sm 1000) : (M.fill b nd).2.Ok B := by
  cases hf : M.frI b 1 with
  | none => rw [fill_none nd hf]; exact h
  | some i =>
    rw [fill_some nd hf]
    obtain ⟨hf1, hst⟩ := frI_at hf
    obtain ⟨y, hy, hyb, hys, hya⟩ := find_at hf1
    rw [hya] at hst ⊢
    have hm := List.mem_of_getElem? hy
    have hF : ({ M with loads := M.loads.filter (fun q => !decide (q.2 = b)) } : Mo).Ok B :=
      ⟨h.n1, h.n64, h.st, h.none', h.blk, h.own, h.own0, h.pins, h.uni, Nat.le_trans (List.length_filter_le _ _) h.ll, h.lB, h.ln, h.lb, fun q hq => h.lo q (List.mem_filter.1 hq).1, h.es, h.hw, h.B9⟩
    refine put_ok (M := { M with loads := M.loads.filter (fun q => !decide (q.2 = b)) }) hF (i := i) (y := y) (y' := { y with st := 2, nd := nd }) hy (.inr (.inr (.inl rfl))) (fun e => by rcases e with e | e <;> cases e) (fun _ => h.blk y hm hys) (fun e => by cases e) (fun _ => h.own0 y hm (by rw [hst]; decide)) (h.pins y hm) (fun _ j z hj hz hs e => hj (h.uni j i z y hz hy hs hys e)) (fun q hq _ e => ?_) he
    have := (List.mem_filter.1 hq).2
    rw [show q.2 = b from by rw [← e]; exact hyb] at this
    simp at this
theorem give_ok {M : Mo} {B : Nat} (h : M.Ok B) (t : Int) : (M.give t).Ok B := by
  have hm : ∀ f ∈ (M.give t).fr, (f ∈ M.fr ∧ isC t f = false) ∨ f = free0 := fun f hf => by
    obtain ⟨g, hg, e⟩ := List.mem_map.1 (show f ∈ M.fr.map (fun f => if isC t f = true then free0 else f) from hf)
    split at e
    · exact .inr e.symm
    · rename_i hn; subst e; exact .inl ⟨hg, by simpa using hn⟩
  have hg : ∀ (i : Nat) (f : Vw), (M.give t).fr[i]? = some f → M.fr[i]? = some f ∨ f = free0 := fun i f hf => by
    rw [show (M.give t).fr = M.fr.map (fun f => if isC t f = true then free0 else f) from rfl, List.getElem?_map, Option.map_eq_some_iff] at hf
    obtain ⟨g, hg, e⟩ := hf
    split at e
    · exact .inr e.symm
    · subst e; exact .inl hg
  have hl : (M.give t).fr.length = M.fr.length := List.length_map ..
  refine ⟨by rw [hl]; exact h.n1, by rw [hl]; exact h.n64, fun f hf => ?_, fun f hf => ?_, fun f hf => ?_, fun f hf => ?_, fun f hf => ?_, fun f hf => ?_, fun i j f g hi hj hf hg2 e => ?_, h.ll, h.lB, h.ln, h.lb, fun q hq => ?_, fun f hf => ?_, h.hw, h.B9⟩
  · rcases hm f hf with ⟨hf, _⟩ | rfl
    · exact h.st f hf
    · exact .inl I
  · rcases hm f hf with ⟨hf, _⟩ | rfl
    · exact h.none' f hf
    · exact fun _ => I
  · rcases hm f hf with ⟨hf, _⟩ | rfl
    · exact h.blk f hf
    · exact fun e => by rcases e with e | e <;> cases e
  · rcases hm f hf with ⟨hf, _⟩ | rfl
    · exact h.own f hf
    · exact fun e => by cases e
  · rcases hm f hf with ⟨hf, _⟩ | rfl
    · exact h.own0 f hf
    · exact fun _ => I
  · rcases hm f hf with ⟨hf, _⟩ | rfl
    · exact h.pins f hf
    · exact ⟨by decide, by show (0 : Int) ≤ _; omega⟩
  · rcases hg i f hi with hi | rfl
    · rcases hg j g hj with hj | rfl
      · exact h.uni i j f g hi hj hf hg2 e
      · rcases hg2 with e | e <;> cases e
    · rcases hf with e | e <;> cases e
  · obtain ⟨f, hf, h1, h2⟩ := h.lo q hq
    refine ⟨f, List.mem_map.2 ⟨f, hf, ?_⟩, h1, h2⟩
    rw [if_neg]
    rw [isC_st (by rw [h1]; decide)]; decide
  · rcases hm f hf with ⟨hf, _⟩ | rfl
    · exact h.es f hf
    · exact nd0_sm 1000
theorem name_ok {M : Mo} {B : Nat} (h : M.Ok B) (t b : Int) (nd : Nd) (he : nd.Sm 1000) : (M.name t b nd).2.Ok B := by
  cases hb : (bkB b && (M.find b).isNone) with
  | false => rw [name_no1 nd hb]; exact h
  | true =>
    cases hk : fst1 (isC t) M.fr with
    | none => rw [name_no2 nd hk]; exact h
    | some k =>
      rw [name_yes nd hb hk]
      rw [Bool.and_eq_true, Option.isNone_iff_eq_none] at hb
      obtain ⟨y, hy, hc, _⟩ := fst1_at hk
      have hys : y.st = 3 := by unfold isC at hc; simp only [Bool.and_eq_true, decide_eq_true_eq] at hc; exact hc.1
      exact put_ok h hy (.inr (.inr (.inl rfl))) (fun e => by rcases e with e | e <;> cases e) (fun _ => bk_rng hb.1) (fun e => by cases e) (fun _ => rfl) ⟨by show (0 : Int) ≤ 0; decide, by show (0 : Int) ≤ _; omega⟩ (fun _ j z _ hz hs => find_no hb.2 j z hz hs) (fun q _ e => by rw [hys] at e; cases e) he
theorem unpin_ok {M : Mo} {B : Nat} (h : M.Ok B) (b : Int) : (M.unpin b).2.Ok B := by
  cases hf : M.frI b 2 with
  | none => rw [unpin_none hf]; exact h
  | some i =>
    obtain ⟨hf1, hst⟩ := frI_at hf
    obtain ⟨y, hy, hyb, hys, hya⟩ := find_at hf1
    by_cases hp : (M.at' i).pins = 0
    · rw [unpin_zero hf hp]; exact h
    · rw [unpin_some hf hp]
      rw [hya] at hp ⊢
      have hm := List.mem_of_getElem? hy
      have := h.pins y hm
      exact put_ok_same h hy I I I ⟨by show 0 ≤ y.pins - 1; omega, by show y.pins - 1 ≤ _; omega⟩ (h.es y hm)
theorem set_ok {M : Mo} {B : Nat} (h : M.Ok B) (b : Int) (nd : Nd) (he : nd.Sm 1000) : (M.setN b nd).2.Ok B := by
  cases hf : M.frI b 2 with
  | none => rw [set_none nd hf]; exact h
  | some i =>
    rw [set_some nd hf]
    obtain ⟨hf1, hst⟩ := frI_at hf
    obtain ⟨y, hy, hyb, hys, hya⟩ := find_at hf1
    rw [hya]
    exact put_ok_same h hy I I I (h.pins y (List.mem_of_getElem? hy)) he
theorem mo0_ok {n : Nat} (h1 : 1 ≤ n) (h2 : n ≤ 64) : (mo0 n).Ok 0 := by
  have hm : ∀ f ∈ (mo0 n).fr, f = free0 := fun f hf => (List.mem_replicate.1 (show f ∈ List.replicate n free0 from hf)).2
  have hl : (mo0 n).fr.length = n := List.length_replicate ..
  refine ⟨by omega, by omega, fun f hf => ?_, fun f hf => ?_, fun f hf => ?_, fun f hf => ?_, fun f hf => ?_, fun f hf => ?_, fun i j f g hi _ hf _ _ => ?_, Nat.le_refl _, Nat.le_refl _, List.nodup_nil, (fun q hq => nomatch hq), (fun q hq => nomatch hq), fun f hf => ?_, rfl, by decide⟩
  · rw [hm f hf]; exact .inl rfl
  · rw [hm f hf]; exact fun _ => rfl
  · rw [hm f hf]; exact fun e => by rcases e with e | e <;> cases e
  · rw [hm f hf]; exact fun e => by cases e
  · rw [hm f hf]; exact fun _ => rfl
  · rw [hm f hf]; exact ⟨by decide, by decide⟩
  · rw [hm f (List.mem_of_getElem? hi)] at hf; rcases hf with e | e <;> cases e
  · rw [hm f hf]; exact nd0_sm 1000
section
variable {P : Program} {n : Nat} {L : Env} {X : World → Prop} {o : Oper}
def xorK (k : IntKind) (a b : Int) : Int := k.wrap ((BitVec.ofInt k.bits a ^^^ BitVec.ofInt k.bits b).toNat : Int)
def andK (k : IntKind) (a b : Int) : Int := k.wrap ((BitVec.ofInt k.bits a &&& BitVec.ofInt k.bits b).toNat : Int)
theorem q_xor {t u : TypeId} {x y : Operand} {k : IntKind} {p q : Int} (ho : o.op = .binOp .xor t x y u) (hx : ev L x = some (.int k p)) (hy : ev L y = some (.int k q)) : QOp P n L X o (.int k (xorK k p q)) :=
  q_bin ho hx hy (fun w _ => by rw [Sem.run_bind, guardInt]; simp [binOp, Op.intBits, xorK])
theorem q_and {t u : TypeId} {x y : Operand} {k : IntKind} {p q : Int} (ho : o.op = .binOp .and t x y u) (hx : ev L x = some (.int k p)) (hy : ev L y = some (.int k q)) : QOp P n L X o (.int k (andK k p q)) :=
  q_bin ho hx hy (fun w _ => by rw [Sem.run_bind, guardInt]; simp [binOp, Op.intBits, andK])
theorem q_shr {t u : TypeId} {x y : Operand} {k j : IntKind} {p : Int} (m : Nat) (ho : o.op = .binOp .shr t x y u) (hx : ev L x = some (.int k p)) (hy : ev L y = some (.int j (m : Int))) (hm : m ≤ k.bits) : QOp P n L X o (.int k (p.fdiv (2 ^ m))) :=
  q_bin ho hx hy (fun w _ => by
    rw [Sem.run_bind, guardInt]
    have h1 : ¬ ((m : Int) < 0) := by omega
    have h2 : min ((m : Int)).toNat k.bits = m := by rw [Int.toNat_natCast]; omega
    simp only [binOp, Op.shift, if_neg h1, h2]
    rfl)
theorem q_com {t : TypeId} {x : Operand} {k : IntKind} {p : Int} (ho : o.op = .unOp .xor t x) (hk : k.signed = false) (hx : ev L x = some (.int k p)) : QOp P n L X o (.int k (xorK k k.max p)) :=
  QOp.mk (fun a => Op.unary .xor (a.eval x)) (fun a => by simp [execOp, ho]) (fun a w kn _ => by rw [kn.eval hx]; simp [Op.unary, hk, Op.intBits, xorK])
end
theorem wrap_u8 (z : Int) : IntKind.u8.wrap z = z % 256 := by simp [IntKind.wrap, IntKind.signed, IntKind.bits]
theorem wrap_u32 (z : Int) : IntKind.u32.wrap z = z % 4294967296 := by simp [IntKind.wrap, IntKind.signed, IntKind.bits]
theorem fdiv8 (z : Int) : z.fdiv (2 ^ 8) = z / 256 := by rw [Int.fdiv_eq_ediv_of_nonneg _ (by decide)]; rfl
theorem xor_u8 (a b : Int) : 0 ≤ xorK .u8 a b ∧ xorK .u8 a b < 256 := by unfold xorK; rw [wrap_u8]; omega
theorem xor_u32 (a b : Int) : 0 ≤ xorK .u32 a b ∧ xorK .u32 a b < 4294967296 := by unfold xorK; rw [wrap_u32]; omega
def bitC (x : Int) : Int := if andK .u32 x 1 = 1 then xorK .u32 (x.fdiv (2 ^ 1)) 3988292384 else x.fdiv (2 ^ 1)
def bitsC : Nat → Int → Int
  | 0, x => x
  | k + 1, x => bitC (bitsC k x)
def tabC' (i : Nat) : Int := bitsC 8 (IntKind.u32.wrap (i : Int))
def byteC (x c : Int) : Int := xorK .u32 (tabC' (xorK .u8 (IntKind.u8.wrap x) c).toNat) (x.fdiv (2 ^ 8))
def crcC (l : List Int) : Int := xorK .u32 IntKind.u32.max (l.foldl byteC (xorK .u32 IntKind.u32.max 0))
theorem crc_bd (l : List Int) : 0 ≤ crcC l ∧ crcC l < 4294967296 := xor_u32 _ _
def tabL (i : Nat) : List Value := ((List.range i).map (fun k => Value.int .u32 (tabC' k))) ++ List.replicate (256 - i) (Value.int .u32 0)
theorem tabL_len {i : Nat} (h : i ≤ 256) : (tabL i).length = 256 := by unfold tabL; simp; omega
theorem tabL_set {i : Nat} (h : i < 256) : (tabL i).set (0 + i * 1) (.int .u32 (tabC' i)) = tabL (i + 1) := by
  unfold tabL
  have hl : ((List.range i).map (fun k => Value.int .u32 (tabC' k))).length = i := by simp
  rw [show 0 + i * 1 = i by omega, List.set_append_right _ _ (by omega), hl, Nat.sub_self, List.range_succ, List.map_append]
  obtain ⟨m, hm⟩ : ∃ m, 256 - i = m + 1 := ⟨255 - i, by omega⟩
  rw [hm, List.replicate_succ, List.set_cons_zero, show 256 - (i + 1) = m by omega]
  simp
theorem tabL_get {j : Nat} (h : j < 256) : (tabL 256)[0 + j * 1]? = some (.int .u32 (tabC' j)) := by
  unfold tabL
  rw [show 0 + j * 1 = j by omega, List.getElem?_append_left (by simp; omega)]
  simp [h]
theorem tabL_one (i : Nat) : ∀ v ∈ tabL i, v.oneCell' = true := fun v hv => by
  unfold tabL at hv
  rcases List.mem_append.1 hv with hv | hv
  · obtain ⟨k, _, rfl⟩ := List.mem_map.1 hv; rfl
  · rw [(List.mem_replicate.1 hv).2]; rfl
theorem bmay_spec (x : Int) : Con Tryz.prog 298 [.int .i64 x] (fun _ => True) [] (fun _ : Unit => .bool (decide (1 ≤ x ∧ x ≤ 8))) (fun _ => True) (fun _ => []) := by
  intro w hE hH
  refine enter (n := 9) (vs := [.int .i64 x]) (St w [] []) func298 I I I (St.init hH) ?_
  refine Cs I (Ak I (Cs I (Lm I (Lq I (q_geq I I I) (Lm I ?_)))))
  refine Pre.caseB 5 I (fun h1 => ?_) (fun h1 => ?_)
  · simp only [B4] at h1
    refine Lm I (Lq I (q_leq I I I) (Lq I (q_pick_t I I I) (Ak I (c_ret (r_one I I ?_)))))
    exact fun _ h => ⟨(), congrArg (fun z => Ending.returned (Value.bool z)) (by rw [decide_eq_decide]; omega), trivial, h⟩
  · simp only [B4] at h1
    refine Lx I (Lx I (Lq I (q_pick_f I I I) (Ak I (c_ret (r_one I I ?_)))))
    exact fun _ h => ⟨(), congrArg (fun z => Ending.returned (Value.bool z)) (decide_eq_false (by omega)).symm, trivial, h⟩
theorem bput_spec {va : Value} (zs : List Int) (z : Int) (k : Nat) (h1 : 1 ≤ k) (h8 : k ≤ 8) (hn : zs.length ≤ 60000) : Con Tryz.prog 274 [va, .int .u64 z, .int .i64 (k : Int)] (fun w => RdV w va (encI .u8) zs) [] (fun v : Value => v) (fun _ => True) (fun v => [rowE v 5 (encI .u8) (zs ++ le z k)]) := by
  intro w hl hH
  refine enter (n := 26) (vs := [va, .int .u64 z, .int .i64 (k : Int)]) (St w [] []) func274 I I I (St.init hH) ?_
  refine Cs I (Ak I (Cs I (Lm I (row0 5 (encI .u8) none (l_e I (e_append I I I U23 U23 info5 I I I I I (fun _ h => hl.keep h (by simp)) (by simp only [byt5]; simp; omega) (by simp; omega) ?_))))))
  intro v1
  refine Ak I (c_seq (Cs I (Lm I ?_)))
  rw [List.nil_append]
  refine l_e I (e_call_00 (bmay_spec k) I I I call298 I Tt ?_)
  intro _ _
  refine Lq I (q_not I I) (Nk (Sb 12 false I (by rw [decide_eq_true (by omega)]; rfl) (c_false I (c_skip (Ks (Cs I (Lm I (Lm I (Nk (c_block ?_))))))))))
  refine c_loop2 (fun (i : Nat) (v : Value) => [(1, .int .u64 (z / 256 ^ i)), (7, v), (14, .int .i64 (k : Int)), (15, .int .i64 (i : Int))]) (fun (i : Nat) (v : Value) => St w [] [rowE v 5 (encI .u8) (zs ++ le z i)]) (fun (i : Nat) (v : Value) => i ≤ k) (fun (i : Nat) (v : Value) => k - i) (0) (v1) (Nat.zero_le _) (Sub.consE I (by simp) (Sn I (Sn I (Sub.cons I Sub.nil)))) (fun _ h => by simpa [le] using h) ?_
  intro i v hi
  refine c_seq ?_
  have hll := le_length i z
  have hll := le_length i z
  have hdd : (z / 256 ^ i).fdiv (2 ^ 8) = z / 256 ^ (i + 1) := by rw [fdiv8, Int.ediv_ediv_of_nonneg (Int.le_of_lt (Int.pow_pos (by decide))), Int.pow_succ]
  refine Cr I (Lq I (q_lss I I I) (Ns ?_))
  refine Pre.caseB 16 I (fun h1 => ?_) (fun h1 => ?_)
  · try simp only [B4] at h1
    refine c_true I (c_skip (Ks (c_block (Cs I (Lm I (Lm I (Lq I (q_conv I U41 U5 I) (l_e I (e_buildSliceV (sz := 1) [.tmp 19] I I I I I U23 Z5 I zeroValue5 I ?_)))))))))
    intro b1
    refine pull1 (l_e I (e_append I I I U23 U23 info5 I I I I I (fun _ h => lit_rd (h.at 1 I) (encI .u8) [IntKind.u8.wrap (z / 256 ^ i)] I I) (by simp only [byt5]; simp; omega) (by simp; omega) ?_))
    intro v2
    refine Ak I (Cr I (Lm I (Lq I (q_shr 8 I I I (by decide)) (Las I (l_nil (k_block (Kt (Cr I (Lq I (q_inc I I I (by omega)) (Lm I (l_nil (row_eq (l' := zs ++ le z (i + 1)) (by rw [le_snoc, wrap_u8, List.append_assoc]) (pull1 (drop0 ?_))))))))))))))
    exact k_round ((i + 1, v2)) (by dsimp only; omega) (by dsimp only; omega) (Sub.consE I (by dsimp only; rw [hdd]) (Sub.cons I (Sub.cons I (Sub.cons I Sub.nil)))) (fun _ h => h)
  · try simp only [B4] at h1
    have hik : i = k := by omega
    subst hik
    refine c_false I (c_exit (k_then_exit (k_then_exit (k_block_exit (Kt (Cs I (Lm I (Ak I (c_ret (r_one I I ?_))))))))))
    exact fun _ h => ⟨v, rfl, trivial, h⟩
theorem csteps_spec  : Con Tryz.prog 310 [] (fun _ => True) [] (fun _ : Unit => .agg (tabL 256).toArray) (fun _ => True) (fun _ => []) := by
  intro w hE hH
  refine enter (n := 26) (vs := []) (St w [] []) func310 I I I (St.init hH) ?_
  refine Cs I (l_e I (e_alloc I I I zeroValue395 ?_))
  intro br
  refine cells_eq (show _ = tabL 0 from by kernel_rfl) (Nk (Cs I (l_e I (e_alloc I I I zeroValue395 ?_))))
  intro bl
  refine cells_eq (show _ = tabL 0 from by kernel_rfl) (Ns (Cs I (Lm I (Nk (c_block ?_)))))
  refine c_loop1 (fun (i : Nat) => [(0, .pointer (some ⟨br, 0, none⟩)), (1, .pointer (some ⟨bl, 0, none⟩)), (5, .int .i64 (i : Int))]) (fun (i : Nat) => St w [] [cellsE bl 395 (tabL i), cellsE br 395 (tabL 0)]) (fun (i : Nat) => i ≤ 256) (fun (i : Nat) => 256 - i) (0) (Nat.zero_le _) (Sn I (Sn I (Sn I (Sub.nil)))) Ih ?_
  intro i hi
  refine Cs I (Lq I (q_lss I I I) (Ns ?_))
  refine Pre.caseB 6 I (fun h1 => ?_) (fun h1 => ?_)
  · try simp only [B4] at h1
    refine c_true I (c_skip (Ks (c_block (Cs I (Lm I (Ak I (Cs I (Lm I (Lq I (q_conv I U3 underlying368 I) (Ak I (c_seq (Cs I (Lm I (Nk (c_block ?_)))))))))))))))
    refine c_loop1 (fun (k : Nat) => [(0, .pointer (some ⟨br, 0, none⟩)), (1, .pointer (some ⟨bl, 0, none⟩)), (2, .int .i64 (i : Int)), (5, .int .i64 (i : Int)), (3, .int .u32 (bitsC k (IntKind.u32.wrap (i : Int)))), (10, .int .i64 (k : Int))]) (fun (k : Nat) => St w [] [cellsE bl 395 (tabL i), cellsE br 395 (tabL 0)]) (fun (k : Nat) => k ≤ 8) (fun (k : Nat) => 8 - k) (0) (Nat.zero_le _) (Sn I (Sn I (Sn I (Sn I (Sn I (Sn I (Sub.nil))))))) Ih ?_
    intro k hk
    refine Cs I (Lq I (q_lss I I I) (Ns ?_))
    refine Pre.caseB 11 I (fun h2 => ?_) (fun h2 => ?_)
    · try simp only [B4] at h2
      refine c_true I (c_skip (Ks (c_block (Cs I (Lm I (Lq I (q_and I I I) (Lq I (q_eql I I I) (Ak I (Cs I (Lm I (Lq I (q_shr 1 I I I (by decide)) (Ak I (Cs I (Lm I (Nk ?_)))))))))))))))
      refine Pre.caseB 17 I (fun h3 => ?_) (fun h3 => ?_)
      · try simp only [B4] at h3
        refine c_true I (Cr I (Lm I (Lq I (q_xor I I I) (Las I (l_nil (k_block (Kt (Cr I (Lq I (q_inc I I I (by omega)) (Lm I (l_nil ?_)))))))))))
        exact k_round (k + 1) (by omega) (by omega) (Sub.cons I (Sub.cons I (Sub.cons I (Sub.cons I (Sub.consE I (by show _ = Value.int .u32 (bitC _); unfold bitC; rw [if_pos h3]) (Sub.cons I Sub.nil)))))) (fun _ h => h)
      · try simp only [B4] at h3
        refine c_false I (c_skip (k_block (Kt (Cr I (Lq I (q_inc I I I (by omega)) (Lm I (l_nil ?_)))))))
        exact k_round (k + 1) (by omega) (by omega) (Sub.cons I (Sub.cons I (Sub.cons I (Sub.cons I (Sub.consE I (by show _ = Value.int .u32 (bitC _); unfold bitC; rw [if_neg h3]) (Sub.cons I Sub.nil)))))) (fun _ h => h)
    · try simp only [B4] at h2
      have hk8 : k = 8 := by omega
      subst hk8
      refine c_false I (c_exit (k_then_exit (k_then_exit (k_block_exit (Kt (Cr I (Lm I (Lm I (Lq I (q_indexArr i I underlying395 sizeOf368 I I I (by omega)) (l_e I (e_store I I sizeOf368 I I I (by rw [tabL_len (by omega)]; show 0 + i * 1 < 256; omega) (cells_eq (show _ = tabL (i + 1) from tabL_set (by omega)) (l_nil (k_block (Kt (Cr I (Lq I (q_inc I I I (by omega)) (Lm I (l_nil ?_)))))))))))))))))))
      exact k_round (i + 1) (by omega) (by omega) (Sub.cons I (Sub.cons I (Sub.cons I (Sub.nil)))) (fun _ h => h)
  · try simp only [B4] at h1
    have hi256 : i = 256 := by omega
    subst hi256
    refine c_false I (c_exit (k_then_exit (k_then_exit (k_block_exit (Kt (Cs I (Lq I (q_loadCAgg (tabL 256) I isAgg395 sizeOf395 I (Hat 0 I) (List.take_of_length_le (by rw [List.drop_zero, tabL_len (Nat.le_refl _)]; exact Nat.le_refl _)) (tabL_len (Nat.le_refl _))) (pull1 (l_e I (e_storeAgg I I sizeOf395 I I (tabL_len (Nat.le_refl _)) (tabL_one 256) (by rw [tabL_len (Nat.le_refl _), tabL_len (Nat.zero_le _)]; decide) (cells_eq (show _ = tabL 256 from Sep.splice_all (by rw [tabL_len (Nat.le_refl _), tabL_len (Nat.zero_le _)])) (Nk (c_ret (r_res1 I (res_cellA I isAgg395 sizeOf395 (Hat 0 I) (tabL_len (Nat.le_refl _))) ?_))))))))))))))
    exact fun _ h => ⟨(), rfl, trivial, h.nothing⟩
theorem cmore_spec {va : Value} (l : List Int) (z : Int) (hn : l.length ≤ 60000) : Con Tryz.prog 299 [.int .u32 z, va] (fun w => RdV w va (encI .u8) l) [] (fun _ : Unit => .int .u32 (xorK .u32 IntKind.u32.max (l.foldl byteC (xorK .u32 IntKind.u32.max z)))) (fun _ => True) (fun _ => []) := by
  intro w hl hH
  refine enter (n := 30) (vs := [.int .u32 z, va]) (St w [] []) func299 I I I (St.init hH) ?_
  refine Cs I (Ak I (Cs I (l_e I (e_call_00 (csteps_spec) I I I call310 I Tt ?_))))
  intro _ _
  refine l_e I (e_alloc I I I zeroValue395 ?_)
  intro bt
  refine cells_eq (show _ = tabL 0 from by kernel_rfl) (l_e I (e_storeAgg I I sizeOf395 I I (tabL_len (Nat.le_refl _)) (tabL_one 256) (by rw [tabL_len (Nat.le_refl _), tabL_len (Nat.zero_le _)]; decide) (cells_eq (show _ = tabL 256 from Sep.splice_all (by rw [tabL_len (Nat.le_refl _), tabL_len (Nat.zero_le _)])) (Nk (Cs I (Lm I (Lq I (q_com I I I) (Ak I (c_seq (Cs I (Lm I (Lq I (q_lenV I U23 I (fun _ h => hl.keep h (by simp [dom]))) (Lm I (Nk (c_block ?_)))))))))))))))
  refine c_loop1 (fun (i : Nat) => [(5, .pointer (some ⟨bt, 0, none⟩)), (6, .int .u32 ((l.take i).foldl byteC (xorK .u32 IntKind.u32.max z))), (12, va), (13, .int .i64 (l.length : Int)), (14, .int .i64 (i : Int))]) (fun (i : Nat) => St w [] [cellsE bt 395 (tabL 256)]) (fun (i : Nat) => i ≤ l.length) (fun (i : Nat) => l.length - i) (0) (Nat.zero_le _) (Sn I (Sn I (Sn I (Sn I (Sn I (Sub.nil)))))) Ih ?_
  intro i hi
  refine Cs I (Lq I (q_lss I I I) (Ns ?_))
  refine Pre.caseB 15 I (fun h1 => ?_) (fun h1 => ?_)
  · try simp only [B4] at h1
    obtain ⟨c, hc⟩ : ∃ c, l[i]? = some c := ⟨_, List.getElem?_eq_getElem (by omega)⟩
    have hsn : (l.take (i + 1)).foldl byteC (xorK .u32 IntKind.u32.max z) = byteC ((l.take i).foldl byteC (xorK .u32 IntKind.u32.max z)) c := by rw [List.take_add_one, hc, List.foldl_append]; rfl
    obtain ⟨x, hx⟩ : ∃ x, x = ((l.take i).foldl byteC (xorK .u32 IntKind.u32.max z)) := ⟨_, rfl⟩
    rw [← hx]
    rw [← hx] at hsn
    have hj := xor_u8 (IntKind.u8.wrap x) c
    obtain ⟨j, hjj⟩ : ∃ j : Nat, xorK .u8 (IntKind.u8.wrap x) c = (j : Int) := ⟨_, (Int.toNat_of_nonneg hj.1).symm⟩
    have hj2 : j < 256 := by omega
    have hbc : byteC x c = xorK .u32 (tabC' j) (x.fdiv (2 ^ 8)) := by unfold byteC; rw [hjj]; rfl
    refine c_true I (c_skip (Ks (c_block (Cs I (Lq I (q_indexV i I U23 Z5 I (fun _ h => hl.keep h (by simp [dom])) I I (by omega)) (Lq I (q_loadV i 0 I G5 I I (fun _ h => hl.keep h (by simp [dom])) hc I) (Ak I (Cr I (Lm I (Lq I (q_conv I underlying368 U5 I) (Lm I (Lq I (q_xor I I I) (Lq I (q_indexArr j I underlying395 sizeOf368 I I hjj (by omega)) (Lq I (q_loadC I isAgg368 I (Hat 0 I) (tabL_get hj2)) (Lm I (Lq I (q_shr 8 I I I (by decide)) (Lq I (q_xor I I I) (Las I (l_nil (k_block (Kt (Cr I (Lq I (q_inc I I I (by omega)) ?_)))))))))))))))))))))))
    refine Lm I (l_nil ?_)
    exact k_round (i + 1) (by omega) (by omega) (Sub.cons I (Sub.consE I (by rw [hsn, hbc]) (Sub.cons I (Sub.cons I (Sub.cons I Sub.nil))))) (fun _ h => h)
  · try simp only [B4] at h1
    have hfin : l.take i = l := List.take_of_length_le (by omega)
    rw [hfin]
    refine c_false I (c_exit (k_then_exit (k_then_exit (k_block_exit (Kt (Cs I (Lm I (Lq I (q_com I I I) (Ak I (c_ret (r_one I I ?_)))))))))))
    exact fun _ h => ⟨(), rfl, trivial, h.nothing⟩
theorem csum_spec {va : Value} (l : List Int) (hn : l.length ≤ 60000) : Con Tryz.prog 275 [va] (fun w => RdV w va (encI .u8) l) [] (fun _ : Unit => .int .u32 (crcC l)) (fun _ => True) (fun _ => []) := by
  intro w hl hH
  refine enter (n := 5) (vs := [va]) (St w [] []) func275 I I I (St.init hH) ?_
  refine Cs I (Ak I (Cs I (Lm I (l_e I (e_call_00 (cmore_spec l 0 hn) I I I call299 I (fun _ h => hl.keep h (by simp)) ?_)))))
  intro _ _
  refine Ak I (c_ret (r_one I I ?_))
  exact fun _ h => ⟨(), rfl, trivial, h⟩
theorem codsum_spec {va : Value} (l : List Int) (hn : l.length ≤ 60000) : Con Tryz.prog 218 [va] (fun w => RdV w va (encI .u8) l) [] (fun v : Value => v) (fun _ => True) (fun v => [rowE v 5 (encI .u8) (le (crcC l) 4)]) := by
  intro w hl hH
  have hcb := crc_bd l
  refine enter (n := 7) (vs := [va]) (St w [] []) func218 I I I (St.init hH) ?_
  refine Cs I (Ak I (Cs I (Lm I (l_e I (e_call_00 (csum_spec l hn) I I I call275 I (fun _ h => hl.keep h (by simp)) ?_)))))
  intro _ _
  refine Lq I (q_conv_in (p := crcC l) I underlying368 U41 I (wrapu64_in (by omega))) (l_e I (e_call_01 (bput_spec (va := .slice none 0 0) [] (crcC l) 4 (by decide) (by decide) (Nat.zero_le _)) I I I call274 I (fun _ h => rd_empty _) ?_))
  intro v _
  refine Ak I (c_ret (r_one I I ?_))
  exact fun _ h => ⟨v, rfl, trivial, h⟩
end Go.Proofs.YtloldofjddbjoaaGreat
namespace Go.Proofs.YtloldofjddbjoaaGreat
open Go.Sep Go.RowKit Tryz
section
variable {P : Program} {n : Nat} {L : Env} {X : World → Prop} {o : Oper} {Q : Exit → Act → World → Prop} {K : Act → World → Prop}
variable {w0 : World} {D : List Nat} {H : List Ent} {α : Type} {E : Enc α} {l : List α} {v : Value}
theorem e_appendZ {t tx e : TypeId} {i : TypeInfo} {z : Value} {s x : Operand} {m d : Nat} {a0 : α} (ho : o.op = .call ⟨.builtin .append, #[s, x], #[t, tx]⟩) (hd : o.dst = some d) (hnn : d.blt n = true) (ht : P.underlying t = some (.slice e)) (htx : P.underlying tx = some (.int .i64)) (hi : P.info? e = some i) (hs : i.size = E.sz) (hz : i.zero = some z) (hzc : z.cells.toList = E.f a0)
    (hsv : ev L s = some v) (hxv : ev L x = some (.int .i64 (m : Int))) (hb : (l.length + m) * i.bytes ≤ 140737488355328) (hn : l.length + m ≤ 9223372036854775807)
    (h : ∀ v', Pre n ((d, v') :: L) (St w0 D (rowE v' e E (l ++ List.replicate m a0) :: H)) K) : EOp P n L (St w0 D (rowE v e E l :: H)) o Q K := by
  by_cases hgt : vcap v < l.length + m
  · exact e_appendMake ho hd hnn ht htx hi hs hz hzc hsv hxv (fun _ h => h.rd 0 I) hgt hb hn (fun v' => (h v').world _ (fun w s => s.sublist (List.cons_sublist_cons.2 (List.sublist_cons_self _ _))))
  · exact EOp.val (β := Value) (fun v => v) (fun _ => True) (fun v' => St w0 D (rowE v' e E (l ++ List.replicate m a0) :: H)) hd hnn (fun ac w kn hX => by
      have hrd : RdV w v E l := rowE_rd (hX.at 0 rfl)
      obtain ⟨a, c, rfl, hc, _⟩ := hrd
      have hroom : l.length + m ≤ c := by have : ¬ c < l.length + m := hgt; omega
      have hsz : ∀ w, (sizeOf e).run P w = .ok E.sz w := fun w => by simp [sizeOf, typeInfo, hi, hs]
      have hti : ∀ w, (typeInfo e).run P w = .ok i w := fun w => by simp [typeInfo, hi]
      have hzv : ∀ w, (zeroValue e).run P w = .ok z w := fun w => by simp [zeroValue, typeInfo, hi, hz]
      have hw1 : IntKind.i64.wrap (m : Int) = (m : Int) := wrap64_in (by omega)
      have h5 : ¬ ((m : Int) * (i.bytes : Int) > 281474976710656) := by
        have : m * i.bytes ≤ (l.length + m) * i.bytes := Nat.mul_le_mul_right _ (by omega)
        rw [← Int.natCast_mul]; omega
      have h6 : ¬ ((m : Int) < 0) := by omega
      have hzc2 : z.cells.size = E.sz := by rw [← Array.length_toList, hzc, E.len]
      have hne : 0 < E.sz := E.pos
      have hzf : (Builtin.zeroCells z.cells m).toList = E.flat (List.replicate m a0) := by
        refine List.ext_getElem? (fun k => ?_)
        by_cases hk : k < m * E.sz
        · have hmod : k % E.sz < E.sz := Nat.mod_lt _ E.pos
          have hdiv : k / E.sz < m := (Nat.div_lt_iff_lt_mul E.pos).2 hk
          have e1 : k = k / E.sz * E.sz + k % E.sz := by rw [Nat.mul_comm]; exact (Nat.div_add_mod k E.sz).symm
          have hg := E.flat_get (List.replicate m a0) (k / E.sz) (k % E.sz) a0 _ (by simp [hdiv]) (List.getElem?_eq_getElem (by rw [E.len]; exact hmod))
          rw [← e1] at hg
          rw [hg]
          have h2 : z.cells[k % z.cells.size]! = (E.f a0)[k % E.sz]'(by rw [E.len]; exact hmod) := by
            rw [getElem!_pos z.cells (k % z.cells.size) (by rw [hzc2]; exact hmod)]
            have : z.cells.toList[k % z.cells.size]'(by rw [Array.length_toList, hzc2]; exact hmod) = (E.f a0)[k % E.sz]'(by rw [E.len]; exact hmod) := by simp only [hzc, hzc2]
            simpa using this
          have h3 : k < (Builtin.zeroCells z.cells m).size := by rw [size_zeroCells, hzc2]; exact hk
          rw [← h2, Array.getElem?_toList, Array.getElem?_eq_getElem h3]
          simp [Builtin.zeroCells]
        · rw [List.getElem?_eq_none (by rw [Array.length_toList, size_zeroCells, hzc2]; omega), List.getElem?_eq_none (by rw [E.flat_len, List.length_replicate]; omega)]
      have hm0 : ∀ w, (if m * E.sz = 0 then pure #[] else do pure (Builtin.zeroCells (← zeroValue e).cells m) : Sem (Array Value)).run P w = .ok (Builtin.zeroCells z.cells m) w := fun w => by
        split
        · rename_i h0
          have : m = 0 := by rcases Nat.mul_eq_zero.1 h0 with h | h; exact h; omega
          subst this
          have : Builtin.zeroCells z.cells 0 = #[] := by apply Array.toList_inj.1; rw [hzf]; rfl
          rw [this]; rfl
        · simp [hzv]
      have hrun : (Builtin.append_ #[t, tx] o.type #[.slice a l.length c, .int .i64 (m : Int)]).run P w = (Sem.run P (match a with | some a => storeCells (a.add (l.length * E.sz)) (E.flat (List.replicate m a0)) | none => pure () : Sem Unit) w).andThen (fun _ w' => .ok (.slice a (l.length + m) c) w') := by
        by_cases h0 : m * E.sz = 0
        · have hmz : m = 0 := by rcases Nat.mul_eq_zero.1 h0 with h | h; exact h; omega
          subst hmz
          have hw0 : IntKind.i64.wrap 0 = 0 := by decide
          cases a <;> simp [Builtin.append_, run_und ht, run_und htx, hsz, hti, asInt, asIntOf, hw0, hroom, storeCells, Enc.flat_nil, hc]
        · have hmw := hm0 w
          cases a <;> simp [Builtin.append_, run_und ht, run_und htx, hsz, hti, hzv, asInt, asIntOf, hw1, h6, h5, hroom, h0, hzf]
      have hexec : ∀ r, (Builtin.append_ #[t, tx] o.type #[.slice a l.length c, .int .i64 (m : Int)]).run P w = r → (execOp ac.eval o).run P w = r.andThen (fun v w' => .ok (.value v) w') := fun r hr => by
        simp [execOp, ho, resolve, invoke, builtin, kn.eval hsv, kn.eval hxv, hr]
      by_cases hm : m = 0
      · subst hm
        refine ⟨.slice a l.length c, w, ?_, trivial, by simpa using hX⟩
        rw [hexec _ hrun]
        cases a <;> simp [Enc.flat_nil, storeCells]
      · have hat : Row (.slice a l.length c) e E l ((ownB (.slice a l.length c)).bind (w.heap[·]?)) := hX.at 0 rfl
        rcases hat with ⟨a', he, rfl⟩ | ⟨b, cap, pre, post, he, hcp, ho', hlc, hpost⟩
        · cases he; simp at hroom; exact absurd hroom hm
        · cases he
          have hown : ownB (.slice (some ⟨b, pre.length, none⟩) l.length c) = some b := by simp [ownB]; omega
          have h1 : St w0 D (cellsE b e (pre ++ E.flat l ++ post) :: H) w := hX.head hown.symm (fun _ => by rw [hown] at ho'; exact ho')
          have hl1 := E.flat_len l
          have hl2 := E.flat_len (List.replicate m a0)
          rw [List.length_replicate] at hl2
          have hmul : (l.length + m) * E.sz ≤ c * E.sz := Nat.mul_le_mul_right _ hroom
          have hsub : (c - l.length) * E.sz = c * E.sz - l.length * E.sz := Nat.sub_mul ..
          rw [Nat.add_mul] at hmul
          have hfit : pre.length + l.length * E.sz + 0 + (E.flat (List.replicate m a0)).length ≤ (pre ++ E.flat l ++ post).length := by
            simp only [List.length_append]; omega
          obtain ⟨w', hr, h'⟩ := run_storeCs (P := P) (off := pre.length + l.length * E.sz) (E.flat (List.replicate m a0)) _ 0 h1 hfit (fun u hu => E.flat_one _ u hu)
          refine ⟨.slice (some ⟨b, pre.length, none⟩) (l.length + m) c, w', ?_, trivial, ?_⟩
          · rw [hexec _ hrun]
            simp only [add_none, hr, Result.andThen_ok]
          · rw [splice_eq _ _ _ (by simpa using hfit)] at h'
            have t1 : (pre ++ E.flat l ++ post).take (pre.length + l.length * E.sz + 0) = pre ++ E.flat l := by
              rw [Nat.add_zero, ← hl1, ← List.length_append, List.take_left]
            rw [t1] at h'
            have e2 : pre ++ E.flat l ++ E.flat (List.replicate m a0) = pre ++ E.flat (l ++ List.replicate m a0) := by rw [E.flat_append, List.append_assoc]
            rw [e2] at h'
            have := row_close (cap := c) h' (by omega) (by simpa using hroom) (by
              simp only [List.length_drop, List.length_append, Nat.add_zero, List.length_replicate]
              have hs2 : (c - (l.length + m)) * E.sz = c * E.sz - (l.length * E.sz + m * E.sz) := by rw [Nat.sub_mul, Nat.add_mul]
              omega)
            simpa using this) (fun v' _ => h v')
end
end Go.Proofs.YtloldofjddbjoaaGreat
namespace Go.Proofs.YtloldofjddbjoaaGreat
open Go.Sep Go.RowKit Tryz
section
variable {P : Program} {n : Nat} {L : Env} {X : World → Prop} {o : Oper} {α : Type} {E : Enc α} {l : List α} {v : Value}
theorem q_loadVPartE {t : TypeId} {x : Operand} {off sz : Nat} (us : List Value) (j k : Nat) {a : α} (ho : o.op = .load t x) (hg : ∀ w, (isAgg t).run P w = .ok true w) (hz : ∀ w, (sizeOf t).run P w = .ok sz w) (hx : ev L x = some (.pointer (some ⟨blk v, off, none⟩))) (hoff : off = offs v + j * E.sz + k)
    (hr : ∀ w, X w → RdV w v E l) (ha : l[j]? = some a) (hk : k + sz ≤ E.sz) (hu : ((E.f a).drop k).take sz = us) : QOp P n L X o (.agg us.toArray) := hu ▸ q_loadVPart j k ho hg hz hx hoff hr ha hk
theorem e_make0 {Q : Exit → Act → World → Prop} {K : Act → World → Prop} {w0 : World} {D : List Nat} {H : List Ent} {t e : TypeId} (E : Enc α) (m : Nat) {i : TypeInfo} {x y : Operand} {z : Value} {d : Nat} {j k : IntKind} {p q : Int} (ho : o.op = .makeSlice t x y) (hd : o.dst = some d) (hn : d.blt n = true) (ht : P.underlying t = some (.slice e))
    (hi : P.info? e = some i) (hs : i.size = E.sz) (hz : i.zero = some z) (hzl : z.cells.size = E.sz) (hx : ev L x = some (.int j p)) (hy : ev L y = some (.int k q)) (hp : p = 0) (hq : q = (m : Int)) (hm : m * i.bytes ≤ 281474976710656) (hm2 : m ≤ 9223372036854775807)
    (h : ∀ v, Pre n ((d, v) :: L) (St w0 D (rowE v e E [] :: H)) K) : EOp P n L (St w0 D H) o Q K :=
  EOp.val (β := Value) (fun v => v) (fun _ => True) (fun v => St w0 D (rowE v e E [] :: H)) hd hn (fun a w kn x => by
    subst hp; subst hq
    have hw1 : IntKind.i64.wrap (m : Int) = (m : Int) := wrap64_in (by omega)
    have hw0 : IntKind.i64.wrap (0 : Int) = (0 : Int) := by decide
    have hzv : (zeroValue e).run P w = .ok z w := by simp [zeroValue, typeInfo, hi, hz]
    have hrun : (Instr.makeSlice t (.int j 0) (.int k (m : Int))).run P w = .ok (.slice (some ⟨w.heap.size, 0, none⟩) 0 m) (w.alloc (.cells ((Array.range (m * E.sz)).map (z.cells[· % z.cells.size]!)) e)) := by
      have h2 : ¬ ((i.bytes : Int) * (m : Int) > 2 ^ 48) := by
        have h4 : i.bytes * m ≤ 281474976710656 := by rw [Nat.mul_comm]; exact hm
        have h5 : ((i.bytes * m : Nat) : Int) ≤ 281474976710656 := by omega
        rw [Int.natCast_mul] at h5
        omega
      have h1 : ¬ ((m : Int) < 0) := by omega
      have h6 : ¬ ((0 : Int) > (m : Int)) := by omega
      unfold Instr.makeSlice
      simp only [Sem.run_bind, run_und ht, Result.andThen_ok, asInt, asIntOf, Sem.run_pure, Sem.run_map, typeInfo, run_program, hi, hw1, hw0]
      simp [h2, h1, h6, run_askRoom, sizeOf, typeInfo, run_program, hi, hs, run_newRow, hzv]
      have h9 : ¬ (281474976710656 : Int) < (i.bytes : Int) * (m : Int) := h2
      rw [if_neg h9]
      split
      · rename_i h0
        have hr0 : ∀ f : Nat → Value, (Array.range 0).map f = #[] := fun f => by simp
        rw [h0, hr0, hr0]
      · rfl
    refine ⟨.slice (some ⟨w.heap.size, 0, none⟩) 0 m, w.alloc (.cells ((Array.range (m * E.sz)).map (z.cells[· % z.cells.size]!)) e), by simp only [execOp, ho, kn.eval hx, kn.eval hy, Sem.run_bind, hrun, Result.andThen_ok, Sem.run_pure], trivial, ?_⟩
    by_cases h0 : m = 0
    · subst h0
      exact (x.alloc (φ := fun _ => True) trivial).free I (.inl ⟨_, rfl, rfl⟩)
    · have hb : ownB (.slice (some ⟨w.heap.size, 0, none⟩) 0 m) = some w.heap.size := by simp [ownB, h0]
      have h1 := x.alloc (φ := Row (.slice (some ⟨w.heap.size, 0, none⟩) 0 m) e E []) (o := .cells ((Array.range (m * E.sz)).map (z.cells[· % z.cells.size]!)) e) (.inr ⟨w.heap.size, m, [], ((Array.range (m * E.sz)).map (z.cells[· % z.cells.size]!)).toList, rfl, by omega, by rw [Enc.flat_nil, List.nil_append, List.nil_append, Array.toArray_toList], Nat.zero_le _, by simp⟩)
      rw [← hb] at h1
      exact h1) (fun v _ => h v)
end
def Rise (l : List En) : Prop := l.Pairwise (fun a b => kcmp a.key b.key < 0)
def lpos (l : List En) (k : Kv 8) : Nat := (l.takeWhile (fun e => decide (kcmp e.key k < 0))).length
def lis (l : List En) (k : Kv 8) : Bool := match l[lpos l k]? with | some e => decide (e.key = k) | none => false
def lfind (l : List En) (k : Kv 8) : Kv 16 × Bool := match l[lpos l k]? with | some e => if e.key = k then (e.val, true) else (kv0 16, false) | none => (kv0 16, false)
def lnew (l : List En) (m : Ms) : List En := if (map' (lfind l m.key).1 (lfind l m.key).2 m).2 = true then [⟨m.key, (map' (lfind l m.key).1 (lfind l m.key).2 m).1⟩] else []
def lput (l : List En) (m : Ms) : List En := l.take (lpos l m.key) ++ lnew l m ++ l.drop (lpos l m.key + (if lis l m.key = true then 1 else 0))
def lall (l : List En) (ms : List Ms) : List En := ms.foldl lput l
def lsz (e : En) : Int := 2 + e.key.n + e.val.n
def lby (l : List En) : Int := (l.map lsz).sum
def lckAt (l : List En) (i : Nat) : Bool := match l[i]? with
  | some e => kck e.key && vck e.val && (match i, l[i - 1]? with | 0, _ => true | _, some d => decide (kcmp d.key e.key < 0) | _, none => true)
  | none => true
def lck (l : List En) : Bool := (List.range l.length).all (lckAt l)
theorem lpos_eq {l : List En} {k : Kv 8} {i : Nat} (hi : i ≤ l.length) (h1 : ∀ j e, j < i → l[j]? = some e → kcmp e.key k < 0) (h2 : ∀ e, l[i]? = some e → ¬ kcmp e.key k < 0) : lpos l k = i := by
  unfold lpos
  have hl : l.take i ++ l.drop i = l := List.take_append_drop i l
  have ht : ∀ e ∈ l.take i, decide (kcmp e.key k < 0) = true := fun e he => by
    obtain ⟨j, hj⟩ := List.mem_iff_getElem?.1 he
    rw [List.getElem?_take] at hj
    split at hj
    · rename_i hlt; exact decide_eq_true (h1 j e hlt hj)
    · cases hj
  rw [← hl, List.takeWhile_append_of_pos ht]
  have hd : (l.drop i).takeWhile (fun e => decide (kcmp e.key k < 0)) = [] := by
    cases hx : l.drop i with
    | nil => rfl
    | cons x xs =>
      have : l[i]? = some x := by rw [← List.head?_drop, hx]; rfl
      rw [List.takeWhile_cons, if_neg (by simpa using h2 x this)]
  rw [hd, List.append_nil, List.length_take]; omega
theorem pair_at {α : Type} {R : α → α → Prop} {l : List α} (h : l.Pairwise R) (i j : Nat) (a b : α) (hij : i < j) (ha : l[i]? = some a) (hb : l[j]? = some b) : R a b := by
  obtain ⟨hi, rfl⟩ := List.getElem?_eq_some_iff.1 ha
  obtain ⟨hj, rfl⟩ := List.getElem?_eq_some_iff.1 hb
  exact List.pairwise_iff_getElem.1 h i j hi hj hij
theorem pair_of {α : Type} {R : α → α → Prop} {l : List α} (h : ∀ (i j : Nat) (a b : α), i < j → l[i]? = some a → l[j]? = some b → R a b) : l.Pairwise R := by
  rw [List.pairwise_iff_getElem]
  intro i j h1 h2 hij
  exact h i j (l[i]'h1) (l[j]'h2) hij (by simp) (by simp)
theorem rise_mono {l : List En} (hs : Rise l) {k : Kv 8} {i j : Nat} {a b : En} (hij : i ≤ j) (ha : l[i]? = some a) (hb : l[j]? = some b) (h : kcmp b.key k < 0) : kcmp a.key k < 0 := by
  rcases Nat.lt_or_ge i j with hlt | hge
  · exact lex_trans' (pair_at hs i j a b hlt ha hb) (Int.le_of_lt h)
  · have : i = j := by omega
    subst this; rw [ha] at hb; cases hb; exact h
theorem lpos_le (l : List En) (k : Kv 8) : lpos l k ≤ l.length := (List.takeWhile_sublist _).length_le
theorem lis_at {l : List En} {k : Kv 8} (h : lis l k = true) : ∃ e, l[lpos l k]? = some e ∧ e.key = k ∧ lfind l k = (e.val, true) := by
  unfold lis at h
  cases h2 : l[lpos l k]? with
  | none => rw [h2] at h; cases h
  | some e =>
    rw [h2] at h
    have hk := of_decide_eq_true h
    exact ⟨e, rfl, hk, by unfold lfind; rw [h2]; simp [hk]⟩
theorem lis_no {l : List En} {k : Kv 8} (h : lis l k = false) : lfind l k = (kv0 16, false) := by
  unfold lis at h
  unfold lfind
  cases h2 : l[lpos l k]? with
  | none => rfl
  | some e => rw [h2] at h; have hk := of_decide_eq_false h; simp [hk]
theorem lput_len (l : List En) (m : Ms) : (lput l m).length ≤ l.length + 1 := by
  unfold lput lnew
  rw [List.length_append, List.length_append, List.length_take, List.length_drop]
  have := lpos_le l m.key
  split <;> (try simp) <;> omega
theorem lall_len : ∀ (ms : List Ms) (l : List En), (lall l ms).length ≤ l.length + ms.length
  | [], l => Nat.le_refl _
  | m :: ms, l => by
    have h1 := lall_len ms (lput l m)
    have h2 := lput_len l m
    show (lall (lput l m) ms).length ≤ _
    simp only [List.length_cons]; omega
theorem tw_at {α : Type} {p : α → Bool} : ∀ {l : List α} {j : Nat} {e : α}, j < (l.takeWhile p).length → l[j]? = some e → p e = true
  | [], j, e, h, _ => by simp at h
  | x :: l, j, e, h, he => by
    rw [List.takeWhile_cons] at h
    by_cases hx : p x = true
    · rw [if_pos hx] at h
      cases j with
      | zero => simp at he; subst he; exact hx
      | succ j => exact tw_at (l := l) (by simpa using h) (by simpa using he)
    · rw [if_neg hx] at h; simp at h
theorem tw_stop {α : Type} {p : α → Bool} : ∀ {l : List α} {e : α}, l[(l.takeWhile p).length]? = some e → p e = false
  | [], e, h => by simp at h
  | x :: l, e, h => by
    by_cases hx : p x = true
    · rw [List.takeWhile_cons, if_pos hx, List.length_cons, List.getElem?_cons_succ] at h
      exact tw_stop h
    · rw [List.takeWhile_cons, if_neg hx] at h; simp at h; subst h; simpa using hx
theorem lpos_lt {l : List En} {k : Kv 8} {j : Nat} {e : En} (hj : j < lpos l k) (he : l[j]? = some e) : kcmp e.key k < 0 := of_decide_eq_true (tw_at (p := fun e : En => decide (kcmp e.key k < 0)) hj he)
theorem lpos_ge {l : List En} {k : Kv 8} (hs : Rise l) {j : Nat} {e : En} (hj : lpos l k ≤ j) (he : l[j]? = some e) : ¬ kcmp e.key k < 0 := fun h => by
  have hjl := (List.getElem?_eq_some_iff.1 he).1
  obtain ⟨d, hd⟩ : ∃ d, l[lpos l k]? = some d := ⟨_, List.getElem?_eq_getElem (by omega)⟩
  have h1 := rise_mono hs hj hd he h
  have h2 := tw_stop (p := fun e : En => decide (kcmp e.key k < 0)) (show l[(l.takeWhile (fun e : En => decide (kcmp e.key k < 0))).length]? = some d from hd)
  exact of_decide_eq_false h2 h1
theorem lplace_spec {va : Value} (l : List En) (k : Kv 8) (hs : Rise l) (hn : l.length ≤ 65536) : Con Tryz.prog 158 [va, .agg k.c.toArray] (fun w => RdV w va En.enc l) [] (fun _ : Unit => .tuple #[.int .i64 (lpos l k : Int), .bool (lis l k)]) (fun _ => True) (fun _ => []) := by
  intro w hl hH
  refine enter (n := 53) (vs := [va, .agg k.c.toArray]) (St w [] []) func158 I I I (St.init hH) ?_
  refine Cs I (l_e I (e_box I I I I ?_))
  intro bk
  refine cells_eq (show _ = k.c from I) (Las I (Ak I (Cs I (Lm I (Lq I (q_lenV I U49 I (fun _ h => hl.keep h (by simp [dom]))) (Lq I (q_build ([.int .i64 0, .int .i64 (l.length : Int)]) I I (fun w => by kernel_rfl)) (l_e I (e_alloc I I I zeroValue324 ?_))))))))
  intro be
  refine cells_eq (show _ = [.int .i64 0, .int .i64 0] from I) (l_e I (e_storeAgg rfl rfl sizeOf324 rfl rfl rfl (fun v hv => by simp at hv; rcases hv with rfl | rfl <;> rfl) (by show 0 + 2 ≤ 2; decide) (cells_eq (show _ = [.int .i64 ((0 : Nat) : Int), .int .i64 (l.length : Int)] from I) (Ns (c_block ?_)))))
  refine c_loop2 (fun (lo : Nat) (hi : Nat) => [(0, va), (3, .pointer (some ⟨bk, 0, none⟩)), (6, .pointer (some ⟨be, 0, none⟩))]) (fun (lo : Nat) (hi : Nat) => St w [] [cellsE be 324 [.int .i64 (lo : Int), .int .i64 (hi : Int)], cellsE bk 77 k.c]) (fun (lo : Nat) (hi : Nat) => lo ≤ hi ∧ hi ≤ l.length ∧ (∀ j e, j < lo → l[j]? = some e → kcmp e.key k < 0) ∧ ∀ j e, hi ≤ j → l[j]? = some e → ¬ kcmp e.key k < 0) (fun (lo : Nat) (hi : Nat) => hi - lo) (0) (l.length) ⟨Nat.zero_le _, Nat.le_refl _, fun j e h => absurd h (Nat.not_lt_zero _), fun j e h1 h2 => by have := (List.getElem?_eq_some_iff.1 h2).1; omega⟩ (Sub.cons I (Sub.cons I (Sub.cons I (Sub.nil)))) (fun _ h => h) ?_
  intro lo hi hp
  refine c_seq (c_seq ?_)
  obtain ⟨hlh, hhl, hp1, hp2⟩ := hp
  refine Cr I (Lq I (q_indexArr 0 I U324 Z3 I I I (by omega)) (Lo G3 0 I (Lq I (q_indexArr 1 I U324 Z3 I I I (by omega)) (Lo G3 0 I (Lq I (q_lss I I I) (Nk ?_))))))
  refine Pre.caseB 17 I (fun hlt => ?_) (fun hlt => ?_)
  · try simp only [B4] at hlt
    obtain ⟨mid, hmd⟩ : ∃ mid : Nat, mid = (lo + hi) / 2 := ⟨_, rfl⟩
    have hdv : ((lo : Int) + (hi : Int)) / 2 = (mid : Int) := by omega
    obtain ⟨c, hmid⟩ : ∃ c, l[mid]? = some c := ⟨_, List.getElem?_eq_getElem (by omega)⟩
    refine c_true I (c_skip (Kt (c_block (c_seq (D4 [(0,O),(1,O),(2,O),(3,O),(4,O),(5,O),(6,O),(7,O)] [] [(_,O),(_,O),(_,O),(_,O),(_,O),(_,O),(_,O),(_,O)] (fun w2 => (cellsE be 324 [.int .i64 (lo : Int), .int .i64 (hi : Int)]).at w2) I I I I St.drawn (Hat 0 I) (Dq I (q_indexArr 0 I U324 Z3 I I I (by omega)) (Dq I (q_loadC I G3 I Ih I) (Dq I (q_indexArr 1 I U324 Z3 I I I (by omega)) (Dq I (q_loadC I G3 I Ih I) (Dq I (q_add64 I I I (by omega)) (Dq I (q_quo_nn I I I (by omega) (by omega) (by omega)) (Das I (Das I (d_nil (Ks (c_seq (Sv' 8 (.int .i64 (mid : Int)) I (by rw [hdv]) (D4 [(0,O),(1,O),(2,O),(3,O),(4,O),(5,O),(6,V),(7,O)] [] [(_,O),(_,O),(_,O),(_,O),(_,O),(_,O),(_,V),(_,O)] (fun w2 => (cellsE bk 77 k.c).at w2 ∧ RdV w2 va En.enc l) I I I I St.drawn (fun _ h => ⟨h.at 1 rfl, hl.keep h (by simp)⟩) (Dm I (Dm I (Dq I (q_indexV mid I U49 Z79 I (fun _ h => h.2) I I (by omega)) (Dfa U79 I Z77 I (Dq I (q_loadVPartE (c.key.c) mid 0 I G77 Z77 I I (fun _ h => h.2) hmid (by decide) (En.key_part _)) ?_)))))))))))))))))))))))
    refine Dq I (q_loadCAgg (k.c) I G77 Z77 I (fun _ h => h.1) (kv_whole _) (Kv.c_len _)) (d_e I (e_call_00 (cmp_spec c.key k) I I I call162 I Tt ?_))
    intro _ _
    refine d_held (fun _ h => ⟨h.at 1 rfl, hl.keep h (by simp)⟩) (Dq I (q_lss I I I) (d_nil (Kt ?_)))
    refine Pre.caseB 31 I (fun hc => ?_) (fun hc => ?_)
    · try simp only [B4] at hc
      refine c_true I (Cr I (Lm I (Lq I (q_inc I I I (by omega)) (Las I (Ak I (Cr I (Lm I (Lm I (Lq I (q_indexArr 0 I U324 Z3 I I I (by omega)) (l_e I (e_store I I Z3 I I I (by show 0 < 2; decide) (cells_eq (show _ = [.int .i64 ((mid + 1 : Nat) : Int), .int .i64 (hi : Int)] from I) (l_nil (k_block ?_))))))))))))))
      exact k_round ((mid + 1, hi)) (by dsimp only; omega) ⟨by dsimp only; omega, hhl, fun j e hj he => rise_mono hs (by dsimp only at hj; omega) he hmid hc, hp2⟩ (Sub.cons I (Sub.cons I (Sub.cons I (Sub.nil)))) (fun _ h => h)
    · try simp only [B4] at hc
      refine c_false I (c_skip (Kt (Cr I (Lm I (Lm I (Lq I (q_indexArr 1 I U324 Z3 I I I (by omega)) (l_e I (e_store I I Z3 I I I (by show 1 < 2; decide) (cells_eq (show _ = [.int .i64 (lo : Int), .int .i64 (mid : Int)] from I) (l_nil (k_block ?_)))))))))))
      exact k_round ((lo, mid)) (by dsimp only; omega) ⟨by dsimp only; omega, by dsimp only; omega, hp1, fun j e hj he h => hc (rise_mono hs hj hmid he h)⟩ (Sub.cons I (Sub.cons I (Sub.cons I (Sub.nil)))) (fun _ h => h)
  · try simp only [B4] at hlt
    have hpos : lpos l k = lo := lpos_eq (by omega) hp1 (fun e he => hp2 lo e (by omega) he)
    refine c_false I (c_exit (k_then_exit (k_then_exit (k_block_exit (Kt (Cs I (Lq I (q_indexArr 0 I U324 Z3 I I I (by omega)) (Lo G3 0 I (Ak I (c_seq (D4 [(0,O),(1,O),(2,O),(3,O),(4,O),(5,O),(6,O),(7,O),(8,O),(9,O),(10,O),(11,O),(12,O),(13,O),(14,O),(15,O)] [] [(_,O),(_,O),(_,O),(_,O),(_,O),(_,O),(_,O),(_,O),(_,O),(_,O),(_,O),(_,O),(_,O),(_,O),(_,O),(_,O)] (fun w2 => (cellsE bk 77 k.c).at w2 ∧ RdV w2 va En.enc l) I I I I St.drawn (fun _ h => ⟨h.at 1 rfl, hl.keep h (by simp)⟩) (Dm I (Dm I (Dm I (Dq I (q_lenV I U49 I (fun _ h => h.2)) (Dq I (q_lss I I I) (Dm I ?_)))))))))))))))))
    refine Pre.caseB 44 I (fun hin => ?_) (fun hin => ?_)
    · try simp only [B4] at hin
      obtain ⟨c, hlo⟩ : ∃ c, l[lo]? = some c := ⟨_, List.getElem?_eq_getElem (by omega)⟩
      refine Dm I (Dm I (Dq I (q_indexV lo I U49 Z79 I (fun _ h => h.2) I I (by omega)) (Dfa U79 I Z77 I (Dq I (q_loadVPartE (c.key.c) lo 0 I G77 Z77 I I (fun _ h => h.2) hlo (by decide) (En.key_part _)) (Dq I (q_loadCAgg (k.c) I G77 Z77 I (fun _ h => h.1) (kv_whole _) (Kv.c_len _)) (Dq I (q_eqK (c.key) (k) I I I) (Dq I (q_pick_t I I I) (Das I (Das I (d_nil (Kt (c_ret ?_))))))))))))
      have hlis : lis l k = decide (c.key = k) := by unfold lis; rw [hpos, hlo]
      refine r_many (rs := [.tmp 4, .tmp 5]) I I ?_
      exact fun _ h => ⟨(), by rw [hpos, hlis], trivial, h.nothing⟩
    · try simp only [B4] at hin
      have hlis : lis l k = false := by unfold lis; rw [hpos, List.getElem?_eq_none (by omega)]
      refine Dx I (Dx I (Dx I (Dx I (Dx I (Dx I (Dx I (Dq I (q_pick_f I I I) (Das I (Das I (d_nil (Kt (c_ret (r_many (rs := [.tmp 4, .tmp 5]) I I ?_)))))))))))))
      exact fun _ h => ⟨(), by rw [hpos, hlis], trivial, h.nothing⟩
end Go.Proofs.YtloldofjddbjoaaGreat
namespace Go.Proofs.YtloldofjddbjoaaGreat
open Go.Sep Go.RowKit Tryz
theorem lfind_spec {va : Value} (l : List En) (k : Kv 8) (hs : Rise l) (hn : l.length ≤ 65536) : Con Tryz.prog 181 [va, .agg k.c.toArray] (fun w => RdV w va En.enc l) [] (fun _ : Unit => .tuple #[.agg (lfind l k).1.c.toArray, .bool (lfind l k).2]) (fun _ => True) (fun _ => []) := by
  intro w hl hH
  obtain ⟨i, hi⟩ : ∃ i, i = lpos l k := ⟨_, rfl⟩
  refine enter (n := 22) (vs := [va, .agg k.c.toArray]) (St w [] []) func181 I I I (St.init hH) ?_
  refine Cs I (l_e I (e_box I I I I ?_))
  intro bk
  refine cells_eq (show _ = k.c from I) (l_e I (e_alloc I I I zeroValue56 ?_))
  intro br
  refine cells_eq (show _ = (kv0 16).c from I) (Ak I (Cs I (Lm I (Lq I (q_loadCAgg (k.c) I G77 Z77 I (Hat 1 I) (kv_whole _) (Kv.c_len _)) (l_e I (e_call_00 (lplace_spec l k hs hn) I I I call158 I (fun _ h => hl.keep h (by simp)) ?_))))))
  intro _ _
  rw [← hi]
  refine Lm I (Lq I (q_extract I I I) (Lq I (q_extract I I I) (Las I (Ak I (c_seq (Cs I (Lm I (Lq I (q_not I I) (Nk ?_)))))))))
  refine Pre.caseB 15 I (fun his => ?_) (fun his => ?_)
  · try simp only [B4] at his
    have hf := lis_no his
    refine c_true I (Cs I (Lq I (q_build ((kv0 16).c) I I (fun w => by kernel_rfl)) (l_e I (e_storeAgg I I Z56 I I (Kv.c_len _) (Kv.one _) (by simp only [Kv.c_len]; decide) (cells_eq (show _ = (kv0 16).c from Sep.splice_all (by simp only [Kv.c_len])) (Ak I (c_ret (k_then_ret (r_res2 I (res_cellA I G56 Z56 (Hat 0 I) (Kv.c_len _)) (show Sep.look _ _ = some _ from I) ?_)))))))))
    exact fun _ h => ⟨(), by rw [hf], trivial, h.nothing⟩
  · try simp only [B4] at his
    obtain ⟨c, hc, hck, hf⟩ := lis_at his
    rw [← hi] at hc
    have hlt := (List.getElem?_eq_some_iff.1 hc).1
    refine c_false I (c_skip (Kt (Cs I (Lm I (Lm I (Lq I (q_indexV i I U49 Z79 I (fun _ h => hl.keep h (by simp [dom])) I I (by omega)) (Lfa U79 I Z56 I (Lq I (q_loadVPartE (c.val.c) i 9 I G56 Z56 I I (fun _ h => hl.keep h (by simp [dom])) hc (by decide) (En.val_part _)) (l_e I (e_storeAgg I I Z56 I I (Kv.c_len _) (Kv.one _) (by simp only [Kv.c_len]; decide) (cells_eq (show _ = c.val.c from Sep.splice_all (by simp only [Kv.c_len])) (Ak I (c_ret (r_res2 I (res_cellA I G56 Z56 (Hat 0 I) (Kv.c_len _)) (show Sep.look _ _ = some _ from I) ?_))))))))))))))
    exact fun _ h => ⟨(), by rw [hf], trivial, h.nothing⟩
theorem En.set_val (e : En) (v : Kv 16) : Sep.splice e.c 9 v.c = (⟨e.key, v⟩ : En).c := by
  unfold En.c
  have := splice_mid (a := e.key.c) (b := e.val.c) (c := []) (vs := v.c) (k := 9) (Kv.c_len _) (by rw [Kv.c_len, Kv.c_len])
  simpa using this
def en0 : En := ⟨kv0 8, kv0 16⟩
theorem build_en (key : Kv 8) (w : World) : (Instr.build 79 #[(0, .agg key.c.toArray)]).run Tryz.prog w = .ok (.agg (⟨key, kv0 16⟩ : En).c.toArray) w := by
  obtain ⟨a, b, c, d, e, f, g, h, hb⟩ := kv8_list key
  unfold En.c Kv.c
  rw [hb]
  kernel_rfl
theorem lput_spec {va : Value} (l : List En) (m : Ms) (hs : Rise l) (hn : l.length ≤ 60000) : Con Tryz.prog 108 [va, .agg m.c.toArray] (fun w => RdV w va En.enc l) [] (fun v : Value => v) (fun _ => True) (fun v => [rowE v 79 En.enc (lput l m)]) := by
  intro w hl hH
  obtain ⟨i, hi⟩ : ∃ i, i = lpos l m.key := ⟨_, rfl⟩
  have hil : i ≤ l.length := by rw [hi]; exact lpos_le _ _
  refine enter (n := 60) (vs := [va, .agg m.c.toArray]) (St w [] []) func108 I I I (St.init hH) ?_
  refine Cs I (l_e I (e_box I I I I ?_))
  intro bm
  refine cells_eq (show _ = m.c from I) (Ak I (Cs I (Lm I (Lfa U154 I Z77 I (Lq I (q_loadCAgg (m.key.c) I G77 Z77 I (Hat 0 I) (Ms.key_part _) (Kv.c_len _)) (l_e I (e_call_00 (lplace_spec l m.key hs (by omega)) I I I call158 I (fun _ h => hl.keep h (by simp)) ?_)))))))
  intro _ _
  rw [← hi]
  refine Lm I (Lq I (q_extract I I I) (Lq I (q_extract I I I) (Las I (Ak I (c_seq (D4 [(0,O),(1,O),(2,O),(3,O),(4,O),(5,O),(6,V),(7,V),(8,W)] [8] [(_,O),(_,O),(_,O),(_,O),(_,O),(_,O),(_,V),(_,V),(_,W)] (fun w2 => (cellsE bm 154 m.c).at w2 ∧ RdV w2 va En.enc l) I I I I St.drawn (fun _ h => ⟨h.at 0 rfl, hl.keep h (by simp)⟩) (Dfa U154 I Z77 I (Dq I (q_loadCAgg (m.key.c) I G77 Z77 I (fun _ h => h.1) (Ms.key_part _) (Kv.c_len _)) (Dq I (q_build ((⟨m.key, kv0 16⟩ : En).c) I I (fun w => build_en _ w)) (Dm I (Dm I (Dq I (q_sliceVL i I U49 Z79 I (fun _ h => h.2) I I (by omega)) (d_e I (e_alloc I I I zeroValue79 ?_))))))))))))))
  intro be
  refine cells_eq (show _ = en0.c from I) (d_held (fun _ h => ⟨h.at 1 rfl, hl.keep h (by simp)⟩) (d_e I (e_storeAgg I I Z79 I I (En.c_len _) (En.one _) (by simp only [En.c_len]; decide) (cells_eq (show _ = (⟨m.key, kv0 16⟩ : En).c from Sep.splice_all (by simp only [En.c_len])) (d_held (fun _ h => ⟨h.at 1 rfl, hl.keep h (by simp)⟩) (d_t I (e_q I I (q_assign I I) (d_nil (Ks (Cs I (Lm I (Nk ?_))))))))))))
  refine Pre.caseB 24 I (fun his => ?_) (fun his => ?_)
  · obtain ⟨c, hc, hck, hf⟩ := lis_at his
    rw [← hi] at hc
    have hlt := (List.getElem?_eq_some_iff.1 hc).1
    refine c_true I (D4 [(0,O),(1,O),(2,O),(3,O),(4,O),(5,O),(6,O),(7,O),(8,O),(9,O),(10,V),(11,W)] [11] [(_,O),(_,O),(_,O),(_,O),(_,O),(_,O),(_,O),(_,O),(_,O),(_,O),(_,V),(_,W)] (fun w2 => RdV w2 va En.enc l) I I I I St.drawn (fun _ h => hl.keep h (by simp)) (Dm I (Dm I (Dq I (q_indexV i I U49 Z79 I Ih I I (by omega)) (Dfa U79 I Z56 I (Dq I (q_loadVPartE (c.val.c) i 9 I G56 Z56 I I Ih hc (by decide) (En.val_part _)) (Dm I (Dm I (Dq I (q_inc I I I (by omega)) (Dq I (q_sliceVL (i + 1) I U49 Z79 I Ih I I (by omega)) (Dfa U79 I Z56 I (d_e I (e_storeAgg I I Z56 I I (Kv.c_len _) (Kv.one _) (by rw [Kv.c_len, En.c_len]; decide) (cells_eq (En.set_val _ _) (d_held (fun _ h => hl.keep h (by simp)) (d_t I (e_q I I (q_assign I I) (d_nil (Kt (Cs I (Ak I (c_seq (D4 [(0,O),(1,O),(2,O),(4,O),(5,O),(6,O),(3,V),(7,W),(8,W)] [7, 8] [(_,O),(_,O),(_,O),(_,O),(_,O),(_,O),(_,V),(_,W),(_,W)] (fun w2 => RdV w2 va En.enc l) I I I I St.drawn (fun _ h => hl.keep h (by simp)) ?_)))))))))))))))))))))))
    refine Dm I (Dq I (q_lenV I U49 I Ih) (Dq I (q_inc I I I (by omega)) (Dm I (Dm I (Dq I (q_sliceVH i I U49 Z79 I Ih I I (by omega)) ?_)))))
    have hmp : map' (lfind l m.key).1 (lfind l m.key).2 m = map' c.val true m := by rw [hf]
    obtain ⟨r, hr⟩ : ∃ r, r = map' c.val true m := ⟨_, rfl⟩
    have hput : lput l m = l.take i ++ (if r.2 = true then [(⟨m.key, r.1⟩ : En)] else []) ++ l.drop (i + 1) := by
      unfold lput lnew; rw [hmp, ← hi, ← hr, his]; rfl
    have hti : (l.take i).length ≤ i := List.length_take_le _ _
    refine d_e I (e_make0 En.enc (l.length + 1) I I I U49 info79 I I I I I I I (by simp only [byt79]; omega) (by omega) ?_)
    intro v1
    refine d_held (fun _ h => hl.keep h (by simp)) (d_t I (e_append I I I U49 U49 info79 I I I I I (fun _ h => by have := vsl_rd (hl.keep h (by simp)) (lo := 0) (hi := i) (Nat.zero_le _) hil; rwa [List.drop_zero] at this) (by simp only [byt79, List.length_append, List.length_cons, List.length_nil]; omega) (by simp only [List.length_append, List.length_cons, List.length_nil]; omega) ?_))
    intro v2
    refine d_t I (e_q I I (q_assign I I) (d_nil (Ks (Cs I (Lfa U79 I Z56 I (Lq I (q_loadCAgg ((⟨m.key, c.val⟩ : En).val.c) I G56 Z56 I (Hat 1 I) (En.val_part _) (Kv.c_len _)) (Lm I (Lq I (q_loadCAgg (m.c) I G154 Z154 I (Hat 2 I) (ms_whole _) (Ms.c_len _)) (row_eq (l' := l.take i) (by simp) (Sv' 46 (.bool true) I (by rw [his]) (l_e I (e_call_00 (mapply_spec c.val true m) I I I call159 I Tt ?_))))))))))))
    intro _ _
    rw [← hr]
    refine Lm I (Lq I (q_extract I I I) (Lq I (q_extract I I I) (Lfa U79 I Z56 I (pull1 (l_e I (e_storeAgg I I Z56 I I (Kv.c_len _) (Kv.one _) (by rw [Kv.c_len, En.c_len]; decide) (cells_eq (En.set_val _ _) (Ak I (Cs I (Lm I (Nk ?_)))))))))))
    refine Pre.caseB 52 I (fun hr2 => ?_) (fun hr2 => ?_)
    · refine c_true I (Cr I (Lm I (Lq I (q_loadCAgg ((⟨m.key, r.1⟩ : En).c) I isAgg79 Z79 I (Hat 0 I) (En.whole _) (En.c_len _)) (l_e I (e_buildSliceV (sz := 26) [.tmp 54] I I I I I U49 Z79 I zeroValue79 (by simp [Value.cells, En.c_len]) ?_)))))
      intro b4
      refine pull2 (l_e I (e_append I I I U49 U49 info79 I I I I I (fun _ h => lit_rd (h.at 1 I) En.enc [(⟨m.key, r.1⟩ : En)] I I) (by simp only [byt79, List.length_append, List.length_cons, List.length_nil]; omega) (by simp only [List.length_append, List.length_cons, List.length_nil]; omega) ?_))
      intro v3
      refine pull1 (drop0 (Ak I (Cs I (Lm I (Lm I (l_e I (e_append I I I U49 U49 info79 I I I I I (fun _ h => by have := vsl_rd (hl.keep h (by simp)) (lo := i + 1) (hi := l.length) (by omega) (Nat.le_refl _); rwa [List.take_length] at this) (by simp only [byt79]; simp; omega) (by simp; omega) ?_)))))))
      intro v4
      refine Ak I (c_ret (row_eq (l' := lput l m) (by rw [hput, hr2]; simp) (r_one I I ?_)))
      exact fun _ h => ⟨v4, rfl, trivial, h.sublist (List.cons_sublist_cons.2 (List.nil_sublist _))⟩
    · refine c_false I (c_skip (Kt (Cs I (Lm I (Lm I (pull1 (l_e I (e_append I I I U49 U49 info79 I I I I I (fun _ h => by have := vsl_rd (hl.keep h (by simp)) (lo := i + 1) (hi := l.length) (by omega) (Nat.le_refl _); rwa [List.take_length] at this) (by simp only [byt79]; simp; omega) (by simp; omega) ?_))))))))
      intro v4
      refine Ak I (c_ret (row_eq (l' := lput l m) (by rw [hput, hr2]; simp) (r_one I I ?_)))
      exact fun _ h => ⟨v4, rfl, trivial, h.sublist (List.cons_sublist_cons.2 (List.nil_sublist _))⟩
  · have hf := lis_no his
    refine c_false I (c_skip (Kt (Cs I (Ak I (c_seq (D4 [(0,O),(1,O),(2,O),(4,O),(5,O),(6,O),(3,V),(7,W),(8,W)] [7, 8] [(_,O),(_,O),(_,O),(_,O),(_,O),(_,O),(_,V),(_,W),(_,W)] (fun w2 => RdV w2 va En.enc l) I I I I St.drawn (fun _ h => hl.keep h (by simp)) (Dm I (Dq I (q_lenV I U49 I Ih) (Dq I (q_inc I I I (by omega)) (Dm I (Dm I (Dq I (q_sliceVH i I U49 Z79 I Ih I I (by omega)) ?_))))))))))))
    have hmp : map' (lfind l m.key).1 (lfind l m.key).2 m = map' (kv0 16) false m := by rw [hf]
    obtain ⟨r, hr⟩ : ∃ r, r = map' (kv0 16) false m := ⟨_, rfl⟩
    have hput : lput l m = l.take i ++ (if r.2 = true then [(⟨m.key, r.1⟩ : En)] else []) ++ l.drop (i + 0) := by
      unfold lput lnew; rw [hmp, ← hi, ← hr, his]; rfl
    have hti : (l.take i).length ≤ i := List.length_take_le _ _
    refine d_e I (e_make0 En.enc (l.length + 1) I I I U49 info79 I I I I I I I (by simp only [byt79]; omega) (by omega) ?_)
    intro v1
    refine d_held (fun _ h => hl.keep h (by simp)) (d_t I (e_append I I I U49 U49 info79 I I I I I (fun _ h => by have := vsl_rd (hl.keep h (by simp)) (lo := 0) (hi := i) (Nat.zero_le _) hil; rwa [List.drop_zero] at this) (by simp only [byt79, List.length_append, List.length_cons, List.length_nil]; omega) (by simp only [List.length_append, List.length_cons, List.length_nil]; omega) ?_))
    intro v2
    refine d_t I (e_q I I (q_assign I I) (d_nil (Ks (Cs I (Lfa U79 I Z56 I (Lq I (q_loadCAgg ((⟨m.key, kv0 16⟩ : En).val.c) I G56 Z56 I (Hat 1 I) (En.val_part _) (Kv.c_len _)) (Lm I (Lq I (q_loadCAgg (m.c) I G154 Z154 I (Hat 2 I) (ms_whole _) (Ms.c_len _)) (row_eq (l' := l.take i) (by simp) (Sv' 46 (.bool false) I (by rw [his]) (l_e I (e_call_00 (mapply_spec (kv0 16) false m) I I I call159 I Tt ?_))))))))))))
    intro _ _
    rw [← hr]
    refine Lm I (Lq I (q_extract I I I) (Lq I (q_extract I I I) (Lfa U79 I Z56 I (pull1 (l_e I (e_storeAgg I I Z56 I I (Kv.c_len _) (Kv.one _) (by rw [Kv.c_len, En.c_len]; decide) (cells_eq (En.set_val _ _) (Ak I (Cs I (Lm I (Nk ?_)))))))))))
    refine Pre.caseB 52 I (fun hr2 => ?_) (fun hr2 => ?_)
    · refine c_true I (Cr I (Lm I (Lq I (q_loadCAgg ((⟨m.key, r.1⟩ : En).c) I isAgg79 Z79 I (Hat 0 I) (En.whole _) (En.c_len _)) (l_e I (e_buildSliceV (sz := 26) [.tmp 54] I I I I I U49 Z79 I zeroValue79 (by simp [Value.cells, En.c_len]) ?_)))))
      intro b6
      refine pull2 (l_e I (e_append I I I U49 U49 info79 I I I I I (fun _ h => lit_rd (h.at 1 I) En.enc [(⟨m.key, r.1⟩ : En)] I I) (by simp only [byt79, List.length_append, List.length_cons, List.length_nil]; omega) (by simp only [List.length_append, List.length_cons, List.length_nil]; omega) ?_))
      intro v3
      refine pull1 (drop0 (Ak I (Cs I (Lm I (Lm I (l_e I (e_append I I I U49 U49 info79 I I I I I (fun _ h => by have := vsl_rd (hl.keep h (by simp)) (lo := i) (hi := l.length) hil (Nat.le_refl _); rwa [List.take_length] at this) (by simp only [byt79]; simp; omega) (by simp; omega) ?_)))))))
      intro v4
      refine Ak I (c_ret (row_eq (l' := lput l m) (by rw [hput, hr2]; simp) (r_one I I ?_)))
      exact fun _ h => ⟨v4, rfl, trivial, h.sublist (List.cons_sublist_cons.2 (List.nil_sublist _))⟩
    · refine c_false I (c_skip (Kt (Cs I (Lm I (Lm I (pull1 (l_e I (e_append I I I U49 U49 info79 I I I I I (fun _ h => by have := vsl_rd (hl.keep h (by simp)) (lo := i) (hi := l.length) hil (Nat.le_refl _); rwa [List.take_length] at this) (by simp only [byt79]; simp; omega) (by simp; omega) ?_))))))))
      intro v4
      refine Ak I (c_ret (row_eq (l' := lput l m) (by rw [hput, hr2]; simp) (r_one I I ?_)))
      exact fun _ h => ⟨v4, rfl, trivial, h.sublist (List.cons_sublist_cons.2 (List.nil_sublist _))⟩
def Rises (l : List En) (ms : List Ms) : Prop := ∀ i, i ≤ ms.length → Rise (lall l (ms.take i))
theorem lall_snoc {l : List En} {ms : List Ms} {i : Nat} {m : Ms} (h : ms[i]? = some m) : lall l (ms.take (i + 1)) = lput (lall l (ms.take i)) m := by
  unfold lall; rw [List.take_add_one, h, List.foldl_append]; rfl
theorem map_take_snoc {l : List En} {i : Nat} {e : En} (h : l[i]? = some e) : ((l.take (i + 1)).map lsz).sum = ((l.take i).map lsz).sum + lsz e := by
  rw [List.take_add_one, h, List.map_append, List.sum_append]; simp
def En.Bd (e : En) : Prop := -1000 ≤ e.key.n ∧ e.key.n ≤ 1000 ∧ -1000 ≤ e.val.n ∧ e.val.n ≤ 1000
theorem lby_bd {l : List En} (h : ∀ e ∈ l, e.Bd) (i : Nat) : -2000 * (i : Int) ≤ ((l.take i).map lsz).sum ∧ ((l.take i).map lsz).sum ≤ 2002 * (i : Int) := by
  induction i with
  | zero => simp
  | succ i ih =>
    cases hx : l[i]? with
    | none => rw [List.take_add_one, hx]; simp only [Option.toList, List.append_nil]; omega
    | some e =>
      rw [map_take_snoc hx]
      have := h e (List.mem_of_getElem? hx)
      unfold En.Bd at this
      have hz : lsz e = 2 + e.key.n + e.val.n := rfl
      omega
def rowO {α : Type} (own : Bool) (v : Value) (t : TypeId) (E : Enc α) (l : List α) : Ent := if own = true then rowE v t E l else ⟨none, fun _ => True⟩
theorem rowO_rd {α : Type} {w0 w : World} {D : List Nat} {H : List Ent} {own : Bool} {v : Value} {t : TypeId} {E : Enc α} {l : List α} (h : St w0 D H w) (i : Nat) (hi : H[i]? = some (rowO own v t E l)) (hr : own = false → RdV w v E l) : RdV w v E l := by
  cases own with
  | true => exact h.rd i hi
  | false => exact hr rfl
theorem rowO_none {α : Type} {n : Nat} {L : Env} {F : Act → World → Prop} {w0 : World} {D : List Nat} {H : List Ent} (v : Value) (t : TypeId) (E : Enc α) (l : List α) (k : Pre n L (St w0 D (rowO false v t E l :: H)) F) : Pre n L (St w0 D H) F := k.world _ (fun w s => s.add (e' := rowO false v t E l) rfl trivial)
theorem lall_spec {va vm : Value} (l : List En) (ms : List Ms) (hr : Rises l ms) (hn : l.length + ms.length ≤ 60000) : Con Tryz.prog 58 [va, vm] (fun w => RdV w va En.enc l ∧ RdV w vm Ms.enc ms) [] (fun b : Value × Bool => b.1) (fun b => (ms ≠ [] → b.2 = true) ∧ (b.2 = false → b.1 = va ∧ ms = [])) (fun b => [rowO b.2 b.1 79 En.enc (lall l ms)]) := by
  intro w hE hH
  obtain ⟨hl, hm⟩ := hE
  refine enter (n := 18) (vs := [va, vm]) (St w [] []) func58 I I I (St.init hH) ?_
  refine Cs I (Ak I (c_seq (Cs I (Lm I (Lq I (q_lenV I U133 I (fun _ h => hm.keep h (by simp [dom]))) (Lm I (Nk (c_block (rowO_none va 79 En.enc l ?_)))))))))
  refine c_loop3 (fun (i : Nat) (own : Bool) (v : Value) => [(0, v), (7, vm), (8, .int .i64 (ms.length : Int)), (9, .int .i64 (i : Int))]) (fun (i : Nat) (own : Bool) (v : Value) => St w [] [rowO own v 79 En.enc (lall l (ms.take i))]) (fun (i : Nat) (own : Bool) (v : Value) => i ≤ ms.length ∧ (0 < i → own = true) ∧ (own = false → v = va ∧ i = 0)) (fun (i : Nat) (own : Bool) (v : Value) => ms.length - i) (0) (false) (va) ⟨Nat.zero_le _, fun h => absurd h (Nat.lt_irrefl _), fun _ => ⟨rfl, rfl⟩⟩ (Sn I (Sn I (Sn I (Sn I (Sub.nil))))) Ih ?_
  intro i own v hp
  refine c_seq ?_
  obtain ⟨hi, how, hno⟩ := hp
  have hlen := lall_len (ms.take i) l
  have htl := List.length_take_le i ms
  refine Cr I (Lq I (q_lss I I I) (Ns ?_))
  refine Pre.caseB 10 I (fun h1 => ?_) (fun h1 => ?_)
  · try simp only [B4] at h1
    obtain ⟨m, hmi⟩ : ∃ m, ms[i]? = some m := ⟨_, List.getElem?_eq_getElem (by omega)⟩
    have hsn := lall_snoc (l := l) hmi
    refine c_true I (c_skip (Ks (c_block (Cs I (Lq I (q_indexV i I U133 Z154 I (fun _ h => hm.keep h (by simp [dom])) I I (by omega)) (Lq I (q_loadVAgg i I G154 Z154 I I (fun _ h => hm.keep h (by simp [dom])) hmi) (l_e I (e_alloc I I I zeroValue154 ?_))))))))
    intro bm
    refine cells_eq (show _ = ms0.c from I) (l_e I (e_storeAgg I I Z154 I I (Ms.c_len _) (Ms.one _) (by show 0 + (Ms.c _).length ≤ (Ms.c _).length; rw [Ms.c_len, Ms.c_len]; decide) (cells_eq (show _ = m.c from Sep.splice_all (by show (Ms.c _).length = _; rw [Ms.c_len, Ms.c_len])) (Nk (Cr I (Lm I (Lq I (q_loadCAgg (m.c) I G154 Z154 I (Hat 0 I) (ms_whole _) (Ms.c_len _)) (l_e I (e_call_01 (lput_spec (lall l (ms.take i)) m (hr i hi) (by omega)) rfl rfl rfl call108 rfl (fun _ h => rowO_rd h 1 rfl (fun e => by obtain ⟨e1, e2⟩ := hno e; subst e1; subst e2; exact hl.keep h (by simp))) ?_)))))))))
    intro v2 _
    refine Las I (l_nil (k_block (Kt (Cr I (Lq I (q_inc I I I (by omega)) (Lm I (l_nil (pull1 (drop0 (pull1 (drop0 ?_)))))))))))
    exact k_round ((i + 1, true, v2)) (by dsimp only; omega) ⟨by dsimp only; omega, fun _ => rfl, fun e => by cases e⟩ (Sub.cons rfl (Sub.cons rfl (Sub.cons rfl (Sub.cons rfl (Sub.nil))))) (fun _ h => by dsimp only; rw [hsn]; exact h)
  · try simp only [B4] at h1
    have hfin : ms.take i = ms := List.take_of_length_le (by omega)
    rw [hfin]
    refine c_false I (c_exit (k_then_exit (k_then_exit (k_block_exit (Kt (Cs I (Lm I (Ak I (c_ret (r_one I I ?_))))))))))
    exact fun _ h => ⟨(v, own), rfl, ⟨fun hne => how (by have := List.length_pos_iff.2 hne; omega), fun e => ⟨(hno e).1, List.eq_nil_of_length_eq_zero (by have := (hno e).2; omega)⟩⟩, h⟩
theorem en_valn (e : En) : e.c[0 + 9 + 0]? = some (.int .i64 e.val.n) := by
  unfold En.c; rw [List.getElem?_append_right (by rw [Kv.c_len]; decide), Kv.c_len]; rfl
theorem lsize_spec (e : En) (hb : e.Bd) : Con Tryz.prog 308 [.agg e.c.toArray] (fun _ => True) [] (fun _ : Unit => .int .i64 (lsz e)) (fun _ => True) (fun _ => []) := by
  intro w hE hH
  obtain ⟨h1, h2, h3, h4⟩ := hb
  refine enter (n := 11) (vs := [.agg e.c.toArray]) (St w [] []) func308 I I I (St.init hH) ?_
  refine Cs I (l_e I (e_box I I I I ?_))
  intro be
  refine cells_eq (show _ = e.c from I) (Ak I (Cs I (Lfa U79 I Z77 I (Lfa U77 I Z3 I (Lo G3 0 I (Lq I (q_add64 I I I (by omega)) (Lfa U79 I Z56 I (Lfa underlying56 I Z3 I (Lq I (q_loadC I G3 I (Hat 0 I) (en_valn _)) (Lq I (q_add64 I I I (by omega)) (Ak I (c_ret (r_one I I ?_)))))))))))))
  exact fun _ h => ⟨(), rfl, trivial, h.nothing⟩
theorem lbytes_spec {va : Value} (l : List En) (hb : ∀ e ∈ l, e.Bd) (hn : l.length ≤ 60000) : Con Tryz.prog 307 [va] (fun w => RdV w va En.enc l) [] (fun _ : Unit => .int .i64 (lby l)) (fun _ => True) (fun _ => []) := by
  intro w hl hH
  refine enter (n := 18) (vs := [va]) (St w [] []) func307 I I I (St.init hH) ?_
  refine Cs I (Ak I (Cs I (Ak I (c_seq (Cs I (Lm I (Lq I (q_lenV I U49 I (fun _ h => hl.keep h (by simp [dom]))) (Lm I (Nk (c_block ?_))))))))))
  refine c_loop1 (fun (i : Nat) => [(3, .int .i64 ((l.take i).map lsz).sum), (6, va), (7, .int .i64 (l.length : Int)), (8, .int .i64 (i : Int))]) (fun (i : Nat) => St w [] []) (fun (i : Nat) => i ≤ l.length) (fun (i : Nat) => l.length - i) (0) (Nat.zero_le _) (Sn I (Sn I (Sn I (Sn I (Sub.nil))))) Ih ?_
  intro i hi
  refine c_seq ?_
  have hbd := lby_bd hb i
  refine Cr I (Lq I (q_lss I I I) (Ns ?_))
  refine Pre.caseB 9 I (fun h1 => ?_) (fun h1 => ?_)
  · try simp only [B4] at h1
    obtain ⟨c, hc⟩ : ∃ c, l[i]? = some c := ⟨_, List.getElem?_eq_getElem (by omega)⟩
    have hcb := hb c (List.mem_of_getElem? hc)
    have hcb2 := hcb
    unfold En.Bd at hcb2
    have hsn := map_take_snoc hc
    have hlz : lsz c = 2 + c.key.n + c.val.n := rfl
    refine c_true I (c_skip (Ks (c_block (Cs I (Lq I (q_indexV i I U49 Z79 I (fun _ h => hl.keep h (by simp [dom])) I I (by omega)) (Lq I (q_loadVAgg i I isAgg79 Z79 I I (fun _ h => hl.keep h (by simp [dom])) hc) (l_e I (e_alloc I I I zeroValue79 ?_))))))))
    intro be
    refine cells_eq (show _ = en0.c from I) (l_e I (e_storeAgg I I Z79 I I (En.c_len _) (En.one _) (by show 0 + (En.c _).length ≤ (En.c _).length; rw [En.c_len, En.c_len]; decide) (cells_eq (show _ = c.c from Sep.splice_all (by show (En.c _).length = _; rw [En.c_len, En.c_len])) (Nk (Cr I (Lm I (Lq I (q_loadCAgg (c.c) I isAgg79 Z79 I (Hat 0 I) (En.whole _) (En.c_len _)) (l_e I (e_call_00 (lsize_spec c hcb) I I I call308 I Tt ?_)))))))))
    intro _ _
    refine Lq I (q_add64 I I I (by omega)) (Las I (l_nil (k_block (Kt (Cr I (Lq I (q_inc I I I (by omega)) (Lm I (l_nil (drop0 ?_)))))))))
    exact k_round (i + 1) (by omega) (by omega) (Sub.consE I (by rw [hsn]) (Sub.cons I (Sub.cons I (Sub.cons I Sub.nil)))) (fun _ h => h)
  · try simp only [B4] at h1
    have hfin : l.take i = l := List.take_of_length_le (by omega)
    refine c_false I (c_exit (k_then_exit (k_then_exit (k_block_exit (Kt (Cs I (Lm I (Ak I (c_ret (r_one I I ?_))))))))))
    exact fun _ h => ⟨(), congrArg (fun z => Ending.returned (Value.int .i64 z)) (by rw [hfin]; rfl), trivial, h.nothing⟩
theorem lck_no {l : List En} {i : Nat} (hi : i < l.length) (h : lckAt l i = false) : lck l = false := by
  unfold lck; rw [List.all_eq_false]; exact ⟨i, List.mem_range.2 hi, by rw [h]; decide⟩
theorem lck_yes {l : List En} (h : ∀ i, i < l.length → lckAt l i = true) : lck l = true := by
  unfold lck; rw [List.all_eq_true]; exact fun i hi => h i (List.mem_range.1 hi)
theorem lckAt_0 {l : List En} {c : En} (hc : l[0]? = some c) : lckAt l 0 = (kck c.key && vck c.val) := by
  unfold lckAt; rw [hc]; simp
theorem lckAt_s {l : List En} {i : Nat} {c d : En} (hi : 0 < i) (hc : l[i]? = some c) (hd : l[i - 1]? = some d) : lckAt l i = (kck c.key && vck c.val && decide (kcmp d.key c.key < 0)) := by
  unfold lckAt; rw [hc]
  cases i with
  | zero => omega
  | succ i => simp only [hd]
theorem lckAt_k {l : List En} {i : Nat} {c : En} (hc : l[i]? = some c) (h : kck c.key = false) : lckAt l i = false := by
  unfold lckAt; rw [hc]; simp [h]
theorem lckAt_v {l : List En} {i : Nat} {c : En} (hc : l[i]? = some c) (h : vck c.val = false) : lckAt l i = false := by
  unfold lckAt; rw [hc]; simp [h]
theorem lcheck_spec {va : Value} (l : List En) (hn : l.length ≤ 60000) : Con Tryz.prog 341 [va] (fun w => RdV w va En.enc l) [] (fun _ : Unit => .bool (lck l)) (fun _ => True) (fun _ => []) := by
  intro w hl hH
  refine enter (n := 39) (vs := [va]) (St w [] []) func341 I I I (St.init hH) ?_
  refine Cs I (Ak I (c_seq (Cs I (Lm I (Lq I (q_lenV I U49 I (fun _ h => hl.keep h (by simp [dom]))) (Lm I (Nk (c_block ?_))))))))
  refine c_loop1 (fun (i : Nat) => [(0, va), (5, va), (6, .int .i64 (l.length : Int)), (7, .int .i64 (i : Int))]) (fun (i : Nat) => St w [] []) (fun (i : Nat) => i ≤ l.length ∧ ∀ j, j < i → lckAt l j = true) (fun (i : Nat) => l.length - i) (0) ⟨Nat.zero_le _, fun j h => absurd h (Nat.not_lt_zero _)⟩ (Sn I (Sn I (Sn I (Sn I (Sub.nil))))) Ih ?_
  intro i hp
  refine c_seq ?_
  obtain ⟨hi, hj⟩ := hp
  refine Cr I (Lq I (q_lss I I I) (Ns ?_))
  refine Pre.caseB 8 I (fun h1 => ?_) (fun h1 => ?_)
  · try simp only [B4] at h1
    obtain ⟨c, hc⟩ : ∃ c, l[i]? = some c := ⟨_, List.getElem?_eq_getElem (by omega)⟩
    have hlt := (List.getElem?_eq_some_iff.1 hc).1
    refine c_true I (c_skip (Ks (c_block (Cs I (Lm I (Lq I (q_indexV i I U49 Z79 I (fun _ h => hl.keep h (by simp [dom])) I I (by omega)) (Lq I (q_loadVAgg i I isAgg79 Z79 I I (fun _ h => hl.keep h (by simp [dom])) hc) (l_e I (e_alloc I I I zeroValue79 ?_)))))))))
    intro be
    refine cells_eq (show _ = en0.c from I) (Las I (l_e I (e_storeAgg I I Z79 I I (En.c_len _) (En.one _) (by show 0 + (En.c _).length ≤ (En.c _).length; rw [En.c_len, En.c_len]; decide) (cells_eq (show _ = c.c from Sep.splice_all (by show (En.c _).length = _; rw [En.c_len, En.c_len])) (Ns (D4 [(0,O),(1,O),(2,V),(3,O),(4,O),(5,O),(6,O),(7,V),(8,O),(9,O),(10,O),(11,O),(12,O),(13,O),(14,O),(15,O),(16,O),(17,O),(18,O),(19,O),(20,O),(21,O),(22,V),(23,O),(24,O),(25,O)] [] [(_,O),(_,O),(_,V),(_,O),(_,O),(_,O),(_,O),(_,V),(_,O),(_,O),(_,O),(_,O),(_,O),(_,O),(_,O),(_,O),(_,O),(_,O),(_,O),(_,O),(_,O),(_,O),(_,V),(_,O),(_,O),(_,O)] (fun w2 => (cellsE be 79 c.c).at w2 ∧ RdV w2 va En.enc l) I I I I St.drawn (fun _ h => ⟨h.at 0 rfl, hl.keep h (by simp)⟩) (Dfa U79 I Z77 I (Dq I (q_loadCAgg (c.key.c) I G77 Z77 I (fun _ h => h.1) (En.key_part _) (Kv.c_len _)) (d_e I (e_call_00 (kcheck_spec c.key) I I I call279 I Tt ?_))))))))))
    intro _ _
    refine d_held (fun _ h => ⟨h.at 0 rfl, hl.keep h (by simp)⟩) (Dq I (q_not I I) (Dm I ?_))
    refine Pre.caseB 16 I (fun hk => ?_) (fun hk => ?_)
    · try simp only [B4] at hk
      refine Dx I (Dx I (Dx I (Dx I (Dq I (q_pick_t I I I) (Dm I (Dx I (Dx I (Dx I (Dx I (Dx I (Dx I (Dx I (Dx I (Dx I (Dx I (Dx I (Dx I (Dx I (Dx I (Dq I (q_pick_t I I I) (d_nil (Kt (c_true I ?_)))))))))))))))))))))))
      refine Cs I (Ak I (c_ret (k_block_ret (k_then_ret (k_then_ret (k_block_ret (k_then_ret (r_one I I ?_))))))))
      exact fun _ h => ⟨(), congrArg (fun z => Ending.returned (Value.bool z)) (lck_no hlt (lckAt_k hc hk)).symm, trivial, h.nothing⟩
    · try simp only [B4] at hk
      refine Dfa U79 I Z56 I (Dq I (q_loadCAgg (c.val.c) I G56 Z56 I (fun _ h => h.1) (En.val_part _) (Kv.c_len _)) (d_e I (e_call_00 (vcheck_con c.val) I I I call316 I Tt ?_)))
      intro _ _
      refine d_held (fun _ h => ⟨h.at 0 rfl, hl.keep h (by simp)⟩) (Dq I (q_not I I) (Dq I (q_pick_f I I I) (Dm I ?_)))
      refine Pre.caseB 22 I (fun hv => ?_) (fun hv => ?_)
      · try simp only [B4] at hv
        refine Dx I (Dx I (Dx I (Dx I (Dx I (Dx I (Dx I (Dx I (Dx I (Dx I (Dx I (Dx I (Dx I (Dx I (Dq I (q_pick_t I I I) (d_nil (Kt (c_true I (Cs I (Ak I (c_ret (k_block_ret (k_then_ret (k_then_ret ?_)))))))))))))))))))))))
        refine k_block_ret (k_then_ret (r_one I I ?_))
        exact fun _ h => ⟨(), congrArg (fun z => Ending.returned (Value.bool z)) (lck_no hlt (lckAt_v hc hv)).symm, trivial, h.nothing⟩
      · try simp only [B4] at hv
        refine Dm I (Dq I (q_gtr I I I) (Dm I ?_))
        refine Pre.caseB 25 I (fun h0 => ?_) (fun h0 => ?_)
        · try simp only [B4] at h0
          obtain ⟨d, hd⟩ : ∃ d, l[i - 1]? = some d := ⟨_, List.getElem?_eq_getElem (by omega)⟩
          have hat := lckAt_s (by omega) hc hd
          rw [hk, hv] at hat
          refine Dm I (Dm I (Dq I (q_sub64 I I I (by omega)) (Dq I (q_indexV (i - 1) I U49 Z79 I (fun _ h => h.2) I (by omega) (by omega)) (Dfa U79 I Z77 I (Dq I (q_loadVPartE (d.key.c) (i - 1) 0 I G77 Z77 I I (fun _ h => h.2) hd (by decide) (En.key_part _)) (Dfa U79 I Z77 I (Dq I (q_loadCAgg (c.key.c) I G77 Z77 I (fun _ h => h.1) (En.key_part _) (Kv.c_len _)) (d_e I (e_call_00 (cmp_spec d.key c.key) I I I call162 I Tt ?_)))))))))
          intro _ _
          refine d_held (fun _ h => ⟨h.at 0 rfl, hl.keep h (by simp)⟩) (Dq I (q_geq I I I) (Dq I (q_pick_t I I I) (Dq I (q_pick_f I I I) (d_nil (Kt ?_)))))
          refine Pre.caseB 37 I (fun hcm => ?_) (fun hcm => ?_)
          · try simp only [B4] at hcm
            refine c_true I (Cs I (Ak I (c_ret (k_block_ret (k_then_ret (k_then_ret (k_block_ret (k_then_ret (r_one I I ?_)))))))))
            exact fun _ h => ⟨(), congrArg (fun z => Ending.returned (Value.bool z)) (lck_no hlt (by rw [hat, decide_eq_false (by omega)]; rfl)).symm, trivial, h.nothing⟩
          · try simp only [B4] at hcm
            refine c_false I (c_skip (k_block (Kt (Cr I (Lq I (q_inc I I I (by omega)) (Lm I (l_nil (drop0 ?_))))))))
            exact k_round (i + 1) (by omega) ⟨by omega, fun j h => by
                rcases Nat.lt_succ_iff_lt_or_eq.1 h with h | rfl
                · exact hj j h
                · rw [hat, decide_eq_true (by omega)]; rfl⟩ (Sub.cons rfl (Sub.cons rfl (Sub.cons rfl (Sub.cons rfl (Sub.nil))))) (fun _ h => h)
        · try simp only [B4] at h0
          have hi0 : i = 0 := by omega
          subst hi0
          refine Dx I (Dx I (Dx I (Dx I (Dx I (Dx I (Dx I (Dx I (Dx I (Dx I (Dq I (q_pick_f I I I) (Dq I (q_pick_f I I I) (d_nil (Kt (c_false I (c_skip (k_block (Kt (Cr I (Lq I (q_inc I I I (by omega)) (Lm I (l_nil (drop0 ?_))))))))))))))))))))))
          exact k_round (0 + 1) (by omega) ⟨by omega, fun j h => by
              rcases Nat.lt_succ_iff_lt_or_eq.1 h with h | rfl
              · exact hj j h
              · rw [lckAt_0 hc, hk, hv]; rfl⟩ (Sub.cons rfl (Sub.cons rfl (Sub.cons rfl (Sub.cons rfl (Sub.nil))))) (fun _ h => h)
  · try simp only [B4] at h1
    have hie : i = l.length := by omega
    refine c_false I (c_exit (k_then_exit (k_then_exit (k_block_exit (Kt (Cs I (Ak I (c_ret (r_one I I ?_)))))))))
    exact fun _ h => ⟨(), congrArg (fun z => Ending.returned (Value.bool z)) (lck_yes (fun j h => hj j (by omega))).symm, trivial, h⟩
section
variable {P : Program} {n : Nat} {L : Env} {o : Oper} {Q : Exit → Act → World → Prop} {K : Act → World → Prop} {w0 : World} {D : List Nat}
theorem e_callM {β : Type} {v : β → Value} {p : β → Prop} {E : World → Prop} {F : List Ent} {HB : β → List Ent} {r : Operand} {name : String} {xs : List Operand} {ts : Array TypeId} {t : TypeId} {x : Value} {us : List Value} {f : FuncId} {vs : List Value} {d : Nat} (s : Con P f vs E [] v p HB) (ho : o.op = .call ⟨.invoke r name, xs.toArray, ts⟩) (hd : o.dst = some d) (hn : d.blt n = true) (hr : ev L r = some (.iface t x)) (hv : evs L xs = some us)
    (hm : ∀ w, (callMethod (.iface t x) name us.toArray).run P w = .ok (.enter f vs.toArray) w) (hE : ∀ w, St w0 D F w → E w) (h : ∀ b, p b → Pre n ((d, v b) :: L) (St w0 D (HB b ++ F)) K) : EOp P n L (St w0 D F) o Q K :=
  e_callG hd hn (fun a w k _ => run_method ho hr hv hm a w k) (fun w h => s.frame (F := F) h (hE w h)) h
end
theorem lckAt_parts {l : List En} {i : Nat} {c : En} (hc : l[i]? = some c) (h : lckAt l i = true) : kck c.key = true ∧ vck c.val = true ∧ (0 < i → ∀ d, l[i - 1]? = some d → kcmp d.key c.key < 0) := by
  have hk : kck c.key = true := by
    cases hk : kck c.key with
    | true => rfl
    | false => rw [lckAt_k hc hk] at h; cases h
  have hv : vck c.val = true := by
    cases hv : vck c.val with
    | true => rfl
    | false => rw [lckAt_v hc hv] at h; cases h
  refine ⟨hk, hv, fun hi d hd => ?_⟩
  rw [lckAt_s hi hc hd, hk, hv] at h
  simpa using h
theorem lck_at {l : List En} (h : lck l = true) {i : Nat} {c : En} (hc : l[i]? = some c) : lckAt l i = true := by
  unfold lck at h; rw [List.all_eq_true] at h; exact h i (List.mem_range.2 (List.getElem?_eq_some_iff.1 hc).1)
theorem lck_bd {l : List En} (h : lck l = true) : ∀ e ∈ l, e.Bd := fun e he => by
  obtain ⟨i, hi⟩ := List.mem_iff_getElem?.1 he
  obtain ⟨h1, h2, _⟩ := lckAt_parts hi (lck_at h hi)
  have := kck_bd h1
  have := vck_bd h2
  unfold En.Bd; omega
theorem rise_of_adj {α : Type} {R : α → α → Prop} (ht : ∀ a b c, R a b → R b c → R a c) {l : List α} (h : ∀ i a b, l[i]? = some a → l[i + 1]? = some b → R a b) : l.Pairwise R := by
  refine pair_of (fun i j a b hij ha hb => ?_)
  obtain ⟨k, rfl⟩ : ∃ k, j = i + 1 + k := ⟨j - i - 1, by omega⟩
  clear hij
  induction k generalizing b with
  | zero => exact h i a b ha hb
  | succ k ih =>
    have hlt := (List.getElem?_eq_some_iff.1 hb).1
    obtain ⟨c, hc⟩ : ∃ c, l[i + 1 + k]? = some c := ⟨_, List.getElem?_eq_getElem (by omega)⟩
    exact ht a c b (ih c hc) (h (i + 1 + k) c b hc hb)
theorem lck_rise {l : List En} (h : lck l = true) : Rise l := rise_of_adj (R := fun a b : En => kcmp a.key b.key < 0) (fun a b c h1 h2 => lex_trans' h1 (Int.le_of_lt h2)) (fun i a b ha hb => (lckAt_parts hb (lck_at h hb)).2.2 (by omega) a ha)
def fitL (n : Nd) : Bool := lck n.es && decide (n.kids.length + n.piv.length + n.msgs.length = 0) && decide (lby n.es ≤ 248)
theorem nof_leaf (nv : NV) (hlf : nv.d.leaf = true) : Con Tryz.prog 258 [.agg nv.c.toArray] (fun _ => True) [] (fun _ : Unit => .iface 365 (.agg nv.c.toArray)) (fun _ => True) (fun _ => []) := by
  intro w hE hH
  refine enter (n := 9) (vs := [.agg nv.c.toArray]) (St w [] []) func258 I I I (St.init hH) ?_
  refine Cs I (l_e I (e_box I I I I ?_))
  intro bn
  refine cells_eq (show _ = nv.c from I) (Ak I (c_seq (Cs I (Lfa U135 I Z4 I (Lo G4 0 I (Nk (Sb 4 true I (hlf) (c_true I (Cs I (Lq I (q_loadCAgg (nv.c) I G135 Z135 I (Hat 0 I) (I) (I)) (Lq rfl (q_iface rfl U365 (fun _ h => by cases h) rfl) (Ak I (c_ret (k_then_ret (r_one I I ?_)))))))))))))))
  exact fun _ h => ⟨(), rfl, trivial, h.nothing⟩
theorem nright_leaf (nv : NV) (hn : nv.d.Sm 60000) : Con Tryz.prog 340 [.agg nv.c.toArray] (fun w => NRd w nv) [] (fun _ : Unit => .bool (lck nv.d.es && decide (nv.d.kids.length + nv.d.piv.length + nv.d.msgs.length = 0))) (fun _ => True) (fun _ => []) := by
  intro w hE hH
  obtain ⟨n1, n2, n3, n4⟩ := hn
  refine enter (n := 20) (vs := [.agg nv.c.toArray]) (St w [] []) func340 I I I (St.init hH) ?_
  refine Cs I (l_e I (e_box I I I I ?_))
  intro bn
  refine cells_eq (show _ = nv.c from I) (Ak I (Cs I (Lfa U365 I Z49 I (Lo G49 0 I (l_e I (e_call_00 (lcheck_spec nv.d.es n1) I I I call341 I (fun _ h => hE.e.keep h (by simp)) ?_))))))
  intro _ _
  refine Lm I ?_
  refine Pre.caseB 6 I (fun hc => ?_) (fun hc => ?_)
  · refine Lfa U365 I Z22 I (Lo G22 0 I (Lq I (q_lenV I U22 I (fun _ h => hE.k.keep h (by simp [dom]))) (Lfa U365 I Z132 I (Lo isAgg132 0 I (Lq I (q_lenV I U132 I (fun _ h => hE.p.keep h (by simp [dom]))) (Lq I (q_add64 I I I (by omega)) (Lfa U365 I Z133 I (Lo isAgg133 0 I (Lq I (q_lenV I U133 I (fun _ h => hE.m.keep h (by simp [dom]))) (Lq I (q_add64 I I I (by omega)) (Lq I (q_eql I I I) (Lq I (q_pick_t I I I) (Ak I (c_ret (r_one I I ?_)))))))))))))))
    exact fun _ h => ⟨(), congrArg (fun z => Ending.returned (Value.bool z)) (by rw [hc, Bool.true_and, decide_eq_decide]; omega), trivial, h.nothing⟩
  · refine Lx I (Lx I (Lx I (Lx I (Lx I (Lx I (Lx I (Lx I (Lx I (Lx I (Lx I (Lx I (Lq I (q_pick_f I I I) (Ak I (c_ret (r_one I I ?_)))))))))))))))
    exact fun _ h => ⟨(), congrArg (fun z => Ending.returned (Value.bool z)) (by rw [hc]; rfl), trivial, h.nothing⟩
theorem nbytes_leaf (nv : NV) (hn : nv.d.Sm 60000) (hb : ∀ e ∈ nv.d.es, e.Bd) : Con Tryz.prog 339 [.agg nv.c.toArray] (fun w => NRd w nv) [] (fun _ : Unit => .int .i64 (lby nv.d.es)) (fun _ => True) (fun _ => []) := by
  intro w hE hH
  refine enter (n := 6) (vs := [.agg nv.c.toArray]) (St w [] []) func339 I I I (St.init hH) ?_
  refine Cs I (l_e I (e_box I I I I ?_))
  intro bn
  refine cells_eq (show _ = nv.c from I) (Ak I (Cs I (Lfa U365 I Z49 I (Lo G49 0 I (l_e I (e_call_00 (lbytes_spec nv.d.es hb hn.e) I I I call307 I (fun _ h => hE.e.keep h (by simp)) ?_))))))
  intro _ _
  refine Ak I (c_ret (r_one I I ?_))
  exact fun _ h => ⟨(), rfl, trivial, h.nothing⟩
theorem ncheck_leaf (nv : NV) (hlf : nv.d.leaf = true) (hn : nv.d.Sm 60000) : Con Tryz.prog 272 [.agg nv.c.toArray] (fun w => NRd w nv) [] (fun _ : Unit => .bool (lck nv.d.es && decide (nv.d.kids.length + nv.d.piv.length + nv.d.msgs.length = 0))) (fun _ => True) (fun _ => []) := by
  intro w hE hH
  refine enter (n := 6) (vs := [.agg nv.c.toArray]) (St w [] []) func272 I I I (St.init hH) ?_
  refine Cs I (l_e I (e_box I I I I ?_))
  intro bn
  refine cells_eq (show _ = nv.c from I) (Ak I (Cs I (Lq I (q_loadCAgg (nv.c) I G135 Z135 I (Hat 0 I) (I) (I)) (l_e I (e_call_00 (nof_leaf nv hlf) I I I call258 I Tt ?_)))))
  intro _ _
  refine l_e I (e_callM (nright_leaf nv hn) I I I I I (fun w => by kernel_rfl) (fun _ h => hE.keep h) ?_)
  intro _ _
  refine Ak I (c_ret (r_one I I ?_))
  exact fun _ h => ⟨(), rfl, trivial, h.nothing⟩
theorem nbytesof_leaf (nv : NV) (hlf : nv.d.leaf = true) (hn : nv.d.Sm 60000) (hb : ∀ e ∈ nv.d.es, e.Bd) : Con Tryz.prog 199 [.agg nv.c.toArray] (fun w => NRd w nv) [] (fun _ : Unit => .int .i64 (lby nv.d.es)) (fun _ => True) (fun _ => []) := by
  intro w hE hH
  refine enter (n := 6) (vs := [.agg nv.c.toArray]) (St w [] []) func199 I I I (St.init hH) ?_
  refine Cs I (l_e I (e_box I I I I ?_))
  intro bn
  refine cells_eq (show _ = nv.c from I) (Ak I (Cs I (Lq I (q_loadCAgg (nv.c) I G135 Z135 I (Hat 0 I) (I) (I)) (l_e I (e_call_00 (nof_leaf nv hlf) I I I call258 I Tt ?_)))))
  intro _ _
  refine l_e I (e_callM (nbytes_leaf nv hn hb) I I I I I (fun w => by kernel_rfl) (fun _ h => hE.keep h) ?_)
  intro _ _
  refine Ak I (c_ret (r_one I I ?_))
  exact fun _ h => ⟨(), rfl, trivial, h.nothing⟩
theorem nfits_leaf (nv : NV) (hlf : nv.d.leaf = true) (hn : nv.d.Sm 60000) : Con Tryz.prog 216 [.agg nv.c.toArray] (fun w => NRd w nv) [] (fun _ : Unit => .bool (fitL nv.d)) (fun _ => True) (fun _ => []) := by
  intro w hE hH
  refine enter (n := 20) (vs := [.agg nv.c.toArray]) (St w [] []) func216 I I I (St.init hH) ?_
  refine Cs I (l_e I (e_box I I I I ?_))
  intro bn
  refine cells_eq (show _ = nv.c from I) (Ak I (Cs I (Ak I (c_seq (Cs I (Lq I (q_loadCAgg (nv.c) I G135 Z135 I (Hat 0 I) (I) (I)) (l_e I (e_call_00 (nof_leaf nv hlf) I I I call258 I Tt ?_))))))))
  intro _ _
  refine Nk (c_block (Cs I (Lq rfl (q_assert_yes rfl U365 (fun _ h => by cases h) rfl) (Lq I (q_extract I I I) (Lq I (q_extract I I I) (Nk (c_true I (Cr I (Las I (l_nil (k_block (Kt (Cs I (Lq I (q_loadCAgg (nv.c) I G135 Z135 I (Hat 0 I) (I) (I)) (l_e I (e_call_00 (ncheck_leaf nv hlf hn) I I I call272 I (fun _ h => hE.keep h) ?_))))))))))))))))
  intro _ _
  refine Lm I ?_
  refine Pre.caseB 14 I (fun hc => ?_) (fun hc => ?_)
  · have hck : lck nv.d.es = true := by rw [Bool.and_eq_true] at hc; exact hc.1
    refine Lq I (q_loadCAgg (nv.c) I G135 Z135 I (Hat 0 I) (I) (I)) (l_e I (e_call_00 (nbytesof_leaf nv hlf hn (lck_bd hck)) I I I call199 I (fun _ h => hE.keep h) ?_))
    intro _ _
    refine Lm I (Lq I (q_leq I I I) (Lq I (q_pick_t I I I) (Ak I (c_ret (r_one I I ?_)))))
    exact fun _ h => ⟨(), congrArg (fun z => Ending.returned (Value.bool z)) (by unfold fitL; rw [hc, Bool.true_and]), trivial, h.nothing⟩
  · refine Lx I (Lx I (Lx I (Lx I (Lq I (q_pick_f I I I) (Ak I (c_ret (r_one I I ?_)))))))
    exact fun _ h => ⟨(), congrArg (fun z => Ending.returned (Value.bool z)) (by unfold fitL; rw [hc]; rfl), trivial, h.nothing⟩
theorem nheavy_leaf (nv : NV) (hlf : nv.d.leaf = true) : Con Tryz.prog 136 [.agg nv.c.toArray] (fun _ => True) [] (fun _ : Unit => .bool false) (fun _ => True) (fun _ => []) := by
  intro w hE hH
  refine enter (n := 12) (vs := [.agg nv.c.toArray]) (St w [] []) func136 I I I (St.init hH) ?_
  refine Cs I (l_e I (e_box I I I I ?_))
  intro bn
  refine cells_eq (show _ = nv.c from I) (Ak I (Cs I (Lfa U135 I Z4 I (Lo G4 0 I (Lq I (q_not I I) (Lm I (Sb 6 false I (by rw [hlf]; rfl) (Lx I (Lx I (Lx I (Lx I (Lq I (q_pick_f I I I) (Ak I (c_ret (r_one I I ?_)))))))))))))))
  exact fun _ h => ⟨(), rfl, trivial, h.nothing⟩
theorem nweights_leaf (nv : NV) (hlf : nv.d.leaf = true) : Con Tryz.prog 259 [.agg nv.c.toArray] (fun _ => True) [] (fun _ : Unit => nil0) (fun _ => True) (fun _ => []) := by
  intro w hE hH
  refine enter (n := 29) (vs := [.agg nv.c.toArray]) (St w [] []) func259 I I I (St.init hH) ?_
  refine Cs I (l_e I (e_box I I I I ?_))
  intro bn
  refine cells_eq (show _ = nv.c from I) (Ak I (Cs I (Ak I (c_seq (Cs I (Lq I (q_loadCAgg (nv.c) I G135 Z135 I (Hat 0 I) (I) (I)) (l_e I (e_call_00 (nof_leaf nv hlf) I I I call258 I Tt ?_))))))))
  intro _ _
  refine Nk (c_block (Cs I (Lq rfl (q_assert_no rfl underlying366 (fun _ h => by cases h) rfl (by decide) zeroValue366) (Lq I (q_extract I I I) (Lq I (q_extract I I I) (Nk (c_false I (c_skip (k_block (Kt (Cs I (Lm I (Ak I (c_ret (r_one I I ?_)))))))))))))))
  exact fun _ h => ⟨(), rfl, trivial, h.nothing⟩
theorem nheaviest_leaf (nv : NV) (hlf : nv.d.leaf = true) : Con Tryz.prog 200 [.agg nv.c.toArray] (fun _ => True) [] (fun _ : Unit => .int .i64 (-1)) (fun _ => True) (fun _ => []) := by
  intro w hE hH
  refine enter (n := 22) (vs := [.agg nv.c.toArray]) (St w [] []) func200 I I I (St.init hH) ?_
  refine Cs I (l_e I (e_box I I I I ?_))
  intro bn
  refine cells_eq (show _ = nv.c from I) (Ak I (Cs I (Las I (Ak I (c_seq (Cs I (Lq I (q_loadCAgg (nv.c) I G135 Z135 I (Hat 0 I) (I) (I)) (l_e I (e_call_00 (nweights_leaf nv hlf) I I I call259 I Tt ?_)))))))))
  intro _ _
  refine Lq I (q_len I U22 I) (Lm I (Nk (c_block ?_)))
  refine c_loop1 (fun (u : Unit) => [(3, .int .i64 (-1)), (9, .int .i64 ((0 : Nat) : Int)), (10, .int .i64 ((0 : Nat) : Int))]) (fun (u : Unit) => St w [] []) (fun (u : Unit) => True) (fun (u : Unit) => 0) (()) trivial (Sn I (Sn I (Sn I (Sub.nil)))) (fun _ h => h.nothing) ?_
  intro u _
  refine Cs I (Lq I (q_lss I I I) (Ns (Sb 11 false I (I) (c_false I (c_exit (k_then_exit (k_then_exit (k_block_exit (Kt (Cs I (Lm I (Ak I (c_ret (r_one I I ?_))))))))))))))
  exact fun _ h => ⟨(), rfl, trivial, h⟩
end Go.Proofs.YtloldofjddbjoaaGreat
namespace Go.Proofs.YtloldofjddbjoaaGreat
open Go.Sep Go.RowKit Tryz
section
variable {P : Program} {n : Nat} {L : Env} {X : World → Prop} {o : Oper} {Q : Exit → Act → World → Prop} {K : Act → World → Prop} {w0 : World} {D : List Nat}
theorem q_indexA {t : TypeId} {x i : Operand} {y z v : Value} (ho : o.op = .index t x i) (hx : ev L x = some y) (hi : ev L i = some z) (hr : ∀ w, (Instr.index t y z).run P w = .ok v w) : QOp P n L X o v :=
  QOp.mk (fun a => Instr.index t (a.eval x) (a.eval i)) (fun a => by simp [execOp, ho]) (fun a w hk _ => by rw [hk.eval hx, hk.eval hi]; exact hr w)
theorem e_callF {β : Type} {v : β → Value} {p : β → Prop} {E : World → Prop} {F : List Ent} {HB : β → List Ent} {g : Operand} {f : FuncId} {xs : List Operand} {ts : Array TypeId} {d : Nat} {vs : List Value} (s : Con P f vs E [] v p HB) (ho : o.op = .call ⟨.value g, xs.toArray, ts⟩) (hd : o.dst = some d) (hn : d.blt n = true) (hg : ev L g = some (.func (.func f) #[] #[])) (hc : ∀ us w, (callFunc f us).run P w = .ok (.enter f us) w) (hv : evs L xs = some vs)
    (hE : ∀ w, St w0 D F w → E w) (h : ∀ b, p b → Pre n ((d, v b) :: L) (St w0 D (HB b ++ F)) K) : EOp P n L (St w0 D F) o Q K :=
  e_callV (us := []) ho hd hn hg hc hv (fun w h => by rw [List.append_nil]; exact s.frame (F := F) h (hE w h)) h
end
abbrev fnV (f : Nat) : Value := .func (.func f) #[] #[]
theorem rises_one {l : List En} {m : Ms} (h : Rise l) (h2 : Rise (lput l m)) : Rises l [m] := fun i hi => by
  cases i with
  | zero => exact h
  | succ i => simp at hi; subst hi; exact h2
theorem aof_leaf (nv : NV) (hlf : nv.d.leaf = true) : Con Tryz.prog 270 [.agg nv.c.toArray] (fun _ => True) [] (fun _ : Unit => .agg #[fnV 297, fnV 267]) (fun _ => True) (fun _ => []) := by
  intro w hE hH
  refine enter (n := 11) (vs := [.agg nv.c.toArray]) (St w [] []) func270 I I I (St.init hH) ?_
  refine Cs I (l_e I (e_box I I I I ?_))
  intro bn
  refine cells_eq (show _ = nv.c from I) (l_e I (e_alloc I I I zeroValue363 ?_))
  intro br
  refine Nk (Cs I (Ak I (c_seq (Cs I (Lfa U135 I Z4 I (Lo G4 1 I (Nk (Sb 5 true I (hlf) (c_true I (Cr I (Ak I (Cs I (Lq I (q_build [fnV 296, fnV 265] I I (fun w => by kernel_rfl)) (Lq I (q_build [fnV 297, fnV 267] I I (fun w => by kernel_rfl)) (Lq I (q_build [fnV 296, fnV 265, fnV 297, fnV 267] I I (fun w => by kernel_rfl)) (Lm I (Lq I (q_indexA (v := .agg #[fnV 297, fnV 267]) I I I (fun w => by kernel_rfl)) (l_e I (e_storeAgg rfl rfl sizeOf363 rfl rfl rfl (fun v hv => by simp at hv; rcases hv with rfl | rfl <;> rfl) (by show 0 + 2 ≤ 2; decide) (cells_eq (show _ = [fnV 297, fnV 267] from I) (Nk (c_ret (r_res1 I (res_cellA I isAgg363 sizeOf363 (Hat 0 I) (I)) ?_)))))))))))))))))))))))
  exact fun _ h => ⟨(), rfl, trivial, h.nothing⟩
theorem atake_leaf {vm : Value} (nv : NV) (ms : List Ms) (hr : Rises nv.d.es ms) (hn : nv.d.es.length + ms.length ≤ 60000) : Con Tryz.prog 297 [.agg nv.c.toArray, vm] (fun w => NRd w nv ∧ RdV w vm Ms.enc ms) [] (fun b : Sv × Bool => .agg (⟨⟨b.1, nv.s.k, nv.s.p, nv.s.m⟩, { nv.d with es := lall nv.d.es ms }⟩ : NV).c.toArray) (fun b => (ms ≠ [] → b.2 = true) ∧ (b.2 = false → b.1.v = nv.s.e.v ∧ ms = [])) (fun b => [rowO b.2 b.1.v 79 En.enc (lall nv.d.es ms)]) := by
  intro w hE hH
  obtain ⟨hE, hm⟩ := hE
  refine enter (n := 11) (vs := [.agg nv.c.toArray, vm]) (St w [] []) func297 I I I (St.init hH) ?_
  refine Cs I (l_e I (e_box I I I I ?_))
  intro bn
  refine cells_eq (show _ = nv.c from I) (l_e I (e_alloc I I I zeroValue135 ?_))
  intro br
  refine cells_eq (show _ = nv0.c from I) (Nk (Cs I (Lfa U135 I Z49 I (Lo G49 1 I (Lm I (l_e I (e_call_01 (lall_spec nv.d.es ms hr hn) I I I call58 I (fun _ h => ⟨hE.e.keep h (by simp), hm.keep h (by simp)⟩) ?_)))))))
  intro ⟨v, own⟩ hb
  refine Lfa U135 I Z49 I (Pre.fact (fun _ h => rd_sv (rowO_rd h 0 rfl (fun e => by obtain ⟨e1, e2⟩ := hb.2 e; dsimp only at e1; subst e1; subst e2; exact hE.e.keep h (by simp)))) ?_)
  rintro ⟨s, hs⟩
  dsimp only at hs
  subst hs
  refine pull2 (l_e I (e_store I I Z49 I I I (by show 1 < 5; decide) (cells_eq (show _ = (⟨⟨s, nv.s.k, nv.s.p, nv.s.m⟩, { nv.d with es := lall nv.d.es ms }⟩ : NV).c from I) (Nk (Cs I (Lq I (q_loadCAgg ((⟨⟨s, nv.s.k, nv.s.p, nv.s.m⟩, { nv.d with es := lall nv.d.es ms }⟩ : NV).c) I G135 Z135 I (Hat 0 I) (I) (I)) (pull2 (l_e I (e_storeAgg I I Z135 I I I (NV.one _) (by show 0 + 5 ≤ 5; decide) (cells_eq (show Sep.splice _ 0 ((⟨⟨s, nv.s.k, nv.s.p, nv.s.m⟩, { nv.d with es := lall nv.d.es ms }⟩ : NV)).c = ((⟨⟨s, nv.s.k, nv.s.p, nv.s.m⟩, { nv.d with es := lall nv.d.es ms }⟩ : NV)).c from Sep.splice_all I) (Nk (c_ret (pull2 (r_res1 I (res_cellA I G135 Z135 (Hat 1 I) (I)) ?_))))))))))))))
  exact fun _ h => ⟨(s, own), rfl, hb, h.sublist (List.cons_sublist_cons.2 (List.nil_sublist _))⟩
def insL (d : Nd) (m : Ms) : Nd := { d with es := lput d.es m }
theorem rowO_own {α : Type} {n : Nat} {L : Env} {F : Act → World → Prop} {w0 : World} {D : List Nat} {H : List Ent} {v : Value} {t : TypeId} {E : Enc α} {l : List α} (k : Pre n L (St w0 D (rowE v t E l :: H)) F) : Pre n L (St w0 D ([rowO true v t E l] ++ H)) F := k
theorem ainsert_leaf (nv : NV) (m : Ms) (hlf : nv.d.leaf = true) (hr : Rise nv.d.es) (hr2 : Rise (lput nv.d.es m)) (hn : nv.d.Sm 50000) : Con Tryz.prog 253 [.agg nv.c.toArray, .agg m.c.toArray] (fun w => NRd w nv) [] (fun s : Sv => if fitL (insL nv.d m) = true then .tuple #[.agg (⟨⟨s, nv.s.k, nv.s.p, nv.s.m⟩, insL nv.d m⟩ : NV).c.toArray, .bool true] else .tuple #[.agg nv.c.toArray, .bool false]) (fun _ => True) (fun s => [rowEn s (lput nv.d.es m)]) := by
  intro w hE hH
  refine enter (n := 19) (vs := [.agg nv.c.toArray, .agg m.c.toArray]) (St w [] []) func253 I I I (St.init hH) ?_
  refine Cs I (l_e I (e_box I I I I ?_))
  intro bn
  refine cells_eq (show _ = nv.c from I) (l_e I (e_box I I I I ?_))
  intro bm
  refine cells_eq (show _ = m.c from I) (l_e I (e_alloc I I I zeroValue135 ?_))
  intro br
  refine cells_eq (show _ = nv0.c from I) (Ak I (c_seq ?_))
  have hin : (insL nv.d m).es.length ≤ nv.d.es.length + 1 := lput_len _ _
  obtain ⟨n1, n2, n3, n4⟩ := hn
  refine c_meet2 (fun (s : Sv) (bx : Nat) => [(2, .pointer (some ⟨bn, 0, none⟩)), (4, .pointer (some ⟨br, 0, none⟩)), (6, .pointer (some ⟨bx, 0, none⟩))]) (fun (s : Sv) (bx : Nat) => St w [] [rowEn s (lput nv.d.es m), cellsE bx 135 (⟨⟨s, nv.s.k, nv.s.p, nv.s.m⟩, insL nv.d m⟩ : NV).c, cellsE br 135 nv0.c, cellsE bm 154 m.c, cellsE bn 135 nv.c]) (fun (s : Sv) (bx : Nat) => True) ?_ ?_
  · refine c_any (fun w2 => (cellsE bn 135 nv.c).at w2 ∧ (cellsE bm 154 m.c).at w2) I St.drawn (Aq 0 I (H2 2 1 I) (q_loadCAgg (nv.c) I G135 Z135 I (fun _ h => h.1) (I) (I)) (Aq 3 I (H2 2 1 I) (q_loadCAgg (nv.c) I G135 Z135 I (fun _ h => h.1) (I) (I)) (Aq 4 I (H2 2 1 I) (q_loadCAgg (m.c) I G154 Z154 I (fun _ h => h.2) (ms_whole _) (Ms.c_len _)) ?_)))
    refine a_all3 1 5 7 (by kernel_rfl) I I I I I I ?_ ?_ ?_ 
    · refine e_call_00 (aof_leaf nv hlf) I I I call270 I Tt ?_
      intro _ _
      refine d_held (H2 2 1 I) (Aq 2 I (H2 2 1 I) (q_field I U363 I isAgg361 I I) ?_)
      refine a_all2 5 7 (by kernel_rfl) I I I I ?_ ?_ 
      · refine e_buildSliceV (sz := 29) [.tmp 11] I I I I I U133 Z154 I zeroValue154 (by simp [Value.cells, Ms.c_len]) ?_
        intro bl
        refine d_held (H2 3 2 I) ?_
        refine a_all2 6 7 (by kernel_rfl) I I I I ?_ ?_ 
        · refine e_callF (atake_leaf nv [m] (rises_one hr hr2) (by show nv.d.es.length + 1 ≤ 60000; omega)) I I I I call297 I (fun _ h => ⟨hE.keep h, lit_rd (h.at 0 I) Ms.enc [m] I rfl⟩) ?_
          rintro ⟨s, own⟩ ⟨ho, _⟩
          have ho2 := ho (by simp)
          dsimp only at ho2
          subst ho2
          refine rowO_own (d_held (H2 4 3 I) (a_all1 7 (by kernel_rfl) I I (e_alloc I I I zeroValue135 ?_)))
          intro bx
          refine cells_eq (show _ = nv0.c from I) (d_held (H2 5 4 I) (a_all1 8 (by kernel_rfl) I I (e_storeAgg I I Z135 I I I (NV.one _) (by show 0 + 5 ≤ 5; decide) (cells_eq (show Sep.splice _ 0 ((⟨⟨s, nv.s.k, nv.s.p, nv.s.m⟩, insL nv.d m⟩ : NV)).c = ((⟨⟨s, nv.s.k, nv.s.p, nv.s.m⟩, insL nv.d m⟩ : NV)).c from Sep.splice_all I) (d_held (H2 5 4 I) (a_nil (by kernel_rfl) (pull2 (drop0 (pull4 (pull4 (pull4 (pull3 (pull4 ?_)))))))))))))
          exact k_meet ((s, bx)) trivial (Sub.cons I (Sub.cons I (Sub.cons I (Sub.nil)))) (fun _ h => h)
        · refine e_alloc I I I zeroValue135 ?_
          intro bx
          refine cells_eq (show _ = nv0.c from I) (d_held (H2 4 3 I) (a_all1 6 (by kernel_rfl) I I (e_callF (atake_leaf nv [m] (rises_one hr hr2) (by show nv.d.es.length + 1 ≤ 60000; omega)) I I I I call297 I (fun _ h => ⟨hE.keep h, lit_rd (h.at 1 I) Ms.enc [m] I rfl⟩) ?_)))
          rintro ⟨s, own⟩ ⟨ho, _⟩
          have ho2 := ho (by simp)
          dsimp only at ho2
          subst ho2
          refine rowO_own (d_held (H2 5 4 I) (pull1 (a_all1 8 (by kernel_rfl) I I (e_storeAgg I I Z135 I I I (NV.one _) (by show 0 + 5 ≤ 5; decide) (cells_eq (show Sep.splice _ 0 ((⟨⟨s, nv.s.k, nv.s.p, nv.s.m⟩, insL nv.d m⟩ : NV)).c = ((⟨⟨s, nv.s.k, nv.s.p, nv.s.m⟩, insL nv.d m⟩ : NV)).c from Sep.splice_all I) (d_held (H2 5 4 I) (a_nil (by kernel_rfl) (pull2 (drop0 (pull4 (pull4 (pull4 (pull3 (pull4 ?_))))))))))))))
          exact k_meet ((s, bx)) trivial (Sub.cons I (Sub.cons I (Sub.cons I (Sub.nil)))) (fun _ h => h)
      · refine e_alloc I I I zeroValue135 ?_
        intro bx
        refine cells_eq (show _ = nv0.c from I) (d_held (H2 3 2 I) (a_all1 5 (by kernel_rfl) I I (e_buildSliceV (sz := 29) [.tmp 11] I I I I I U133 Z154 I zeroValue154 (by simp [Value.cells, Ms.c_len]) ?_)))
        intro bl
        refine d_held (H2 4 3 I) (a_all1 6 (by kernel_rfl) I I (e_callF (atake_leaf nv [m] (rises_one hr hr2) (by show nv.d.es.length + 1 ≤ 60000; omega)) I I I I call297 I (fun _ h => ⟨hE.keep h, lit_rd (h.at 0 I) Ms.enc [m] I rfl⟩) ?_))
        rintro ⟨s, own⟩ ⟨ho, _⟩
        have ho2 := ho (by simp)
        dsimp only at ho2
        subst ho2
        refine rowO_own (d_held (H2 5 4 I) (pull2 (a_all1 8 (by kernel_rfl) I I (e_storeAgg I I Z135 I I I (NV.one _) (by show 0 + 5 ≤ 5; decide) (cells_eq (show Sep.splice _ 0 ((⟨⟨s, nv.s.k, nv.s.p, nv.s.m⟩, insL nv.d m⟩ : NV)).c = ((⟨⟨s, nv.s.k, nv.s.p, nv.s.m⟩, insL nv.d m⟩ : NV)).c from Sep.splice_all I) (d_held (H2 5 4 I) (a_nil (by kernel_rfl) (pull2 (drop0 (pull4 (pull4 (pull4 (pull3 (pull4 ?_))))))))))))))
        exact k_meet ((s, bx)) trivial (Sub.cons I (Sub.cons I (Sub.cons I (Sub.nil)))) (fun _ h => h)
    · refine e_buildSliceV (sz := 29) [.tmp 11] I I I I I U133 Z154 I zeroValue154 (by simp [Value.cells, Ms.c_len]) ?_
      intro bl
      refine d_held (H2 3 2 I) ?_
      refine a_all2 1 7 (by kernel_rfl) I I I I ?_ ?_ 
      · refine e_call_00 (aof_leaf nv hlf) I I I call270 I Tt ?_
        intro _ _
        refine d_held (H2 3 2 I) (Aq 2 I (H2 3 2 I) (q_field I U363 I isAgg361 I I) ?_)
        refine a_all2 6 7 (by kernel_rfl) I I I I ?_ ?_ 
        · refine e_callF (atake_leaf nv [m] (rises_one hr hr2) (by show nv.d.es.length + 1 ≤ 60000; omega)) I I I I call297 I (fun _ h => ⟨hE.keep h, lit_rd (h.at 0 I) Ms.enc [m] I rfl⟩) ?_
          rintro ⟨s, own⟩ ⟨ho, _⟩
          have ho2 := ho (by simp)
          dsimp only at ho2
          subst ho2
          refine rowO_own (d_held (H2 4 3 I) (a_all1 7 (by kernel_rfl) I I (e_alloc I I I zeroValue135 ?_)))
          intro bx
          refine cells_eq (show _ = nv0.c from I) (d_held (H2 5 4 I) (a_all1 8 (by kernel_rfl) I I (e_storeAgg I I Z135 I I I (NV.one _) (by show 0 + 5 ≤ 5; decide) (cells_eq (show Sep.splice _ 0 ((⟨⟨s, nv.s.k, nv.s.p, nv.s.m⟩, insL nv.d m⟩ : NV)).c = ((⟨⟨s, nv.s.k, nv.s.p, nv.s.m⟩, insL nv.d m⟩ : NV)).c from Sep.splice_all I) (d_held (H2 5 4 I) (a_nil (by kernel_rfl) (pull2 (drop0 (pull4 (pull4 (pull4 (pull3 (pull4 ?_)))))))))))))
          exact k_meet ((s, bx)) trivial (Sub.cons I (Sub.cons I (Sub.cons I (Sub.nil)))) (fun _ h => h)
        · refine e_alloc I I I zeroValue135 ?_
          intro bx
          refine cells_eq (show _ = nv0.c from I) (d_held (H2 4 3 I) (a_all1 6 (by kernel_rfl) I I (e_callF (atake_leaf nv [m] (rises_one hr hr2) (by show nv.d.es.length + 1 ≤ 60000; omega)) I I I I call297 I (fun _ h => ⟨hE.keep h, lit_rd (h.at 1 I) Ms.enc [m] I rfl⟩) ?_)))
          rintro ⟨s, own⟩ ⟨ho, _⟩
          have ho2 := ho (by simp)
          dsimp only at ho2
          subst ho2
          refine rowO_own (d_held (H2 5 4 I) (pull1 (a_all1 8 (by kernel_rfl) I I (e_storeAgg I I Z135 I I I (NV.one _) (by show 0 + 5 ≤ 5; decide) (cells_eq (show Sep.splice _ 0 ((⟨⟨s, nv.s.k, nv.s.p, nv.s.m⟩, insL nv.d m⟩ : NV)).c = ((⟨⟨s, nv.s.k, nv.s.p, nv.s.m⟩, insL nv.d m⟩ : NV)).c from Sep.splice_all I) (d_held (H2 5 4 I) (a_nil (by kernel_rfl) (pull2 (drop0 (pull4 (pull4 (pull4 (pull3 (pull4 ?_))))))))))))))
          exact k_meet ((s, bx)) trivial (Sub.cons I (Sub.cons I (Sub.cons I (Sub.nil)))) (fun _ h => h)
      · refine e_alloc I I I zeroValue135 ?_
        intro bx
        refine cells_eq (show _ = nv0.c from I) (d_held (H2 4 3 I) (a_all1 1 (by kernel_rfl) I I (e_call_00 (aof_leaf nv hlf) I I I call270 I Tt ?_)))
        intro _ _
        refine d_held (H2 4 3 I) (Aq 2 I (H2 4 3 I) (q_field I U363 I isAgg361 I I) (a_all1 6 (by kernel_rfl) I I (e_callF (atake_leaf nv [m] (rises_one hr hr2) (by show nv.d.es.length + 1 ≤ 60000; omega)) I I I I call297 I (fun _ h => ⟨hE.keep h, lit_rd (h.at 1 I) Ms.enc [m] I rfl⟩) ?_)))
        rintro ⟨s, own⟩ ⟨ho, _⟩
        have ho2 := ho (by simp)
        dsimp only at ho2
        subst ho2
        refine rowO_own (d_held (H2 5 4 I) (pull1 (a_all1 8 (by kernel_rfl) I I (e_storeAgg I I Z135 I I I (NV.one _) (by show 0 + 5 ≤ 5; decide) (cells_eq (show Sep.splice _ 0 ((⟨⟨s, nv.s.k, nv.s.p, nv.s.m⟩, insL nv.d m⟩ : NV)).c = ((⟨⟨s, nv.s.k, nv.s.p, nv.s.m⟩, insL nv.d m⟩ : NV)).c from Sep.splice_all I) (d_held (H2 5 4 I) (a_nil (by kernel_rfl) (pull2 (drop0 (pull4 (pull4 (pull4 (pull3 (pull4 ?_))))))))))))))
        exact k_meet ((s, bx)) trivial (Sub.cons I (Sub.cons I (Sub.cons I (Sub.nil)))) (fun _ h => h)
    · refine e_alloc I I I zeroValue135 ?_
      intro bx
      refine cells_eq (show _ = nv0.c from I) (d_held (H2 3 2 I) ?_)
      refine a_all2 1 5 (by kernel_rfl) I I I I ?_ ?_ 
      · refine e_call_00 (aof_leaf nv hlf) I I I call270 I Tt ?_
        intro _ _
        refine d_held (H2 3 2 I) (Aq 2 I (H2 3 2 I) (q_field I U363 I isAgg361 I I) (a_all1 5 (by kernel_rfl) I I (e_buildSliceV (sz := 29) [.tmp 11] I I I I I U133 Z154 I zeroValue154 (by simp [Value.cells, Ms.c_len]) ?_)))
        intro bl
        refine d_held (H2 4 3 I) (a_all1 6 (by kernel_rfl) I I (e_callF (atake_leaf nv [m] (rises_one hr hr2) (by show nv.d.es.length + 1 ≤ 60000; omega)) I I I I call297 I (fun _ h => ⟨hE.keep h, lit_rd (h.at 0 I) Ms.enc [m] I rfl⟩) ?_))
        rintro ⟨s, own⟩ ⟨ho, _⟩
        have ho2 := ho (by simp)
        dsimp only at ho2
        subst ho2
        refine rowO_own (d_held (H2 5 4 I) (pull2 (a_all1 8 (by kernel_rfl) I I (e_storeAgg I I Z135 I I I (NV.one _) (by show 0 + 5 ≤ 5; decide) (cells_eq (show Sep.splice _ 0 ((⟨⟨s, nv.s.k, nv.s.p, nv.s.m⟩, insL nv.d m⟩ : NV)).c = ((⟨⟨s, nv.s.k, nv.s.p, nv.s.m⟩, insL nv.d m⟩ : NV)).c from Sep.splice_all I) (d_held (H2 5 4 I) (a_nil (by kernel_rfl) (pull2 (drop0 (pull4 (pull4 (pull4 (pull3 (pull4 ?_))))))))))))))
        exact k_meet ((s, bx)) trivial (Sub.cons I (Sub.cons I (Sub.cons I (Sub.nil)))) (fun _ h => h)
      · refine e_buildSliceV (sz := 29) [.tmp 11] I I I I I U133 Z154 I zeroValue154 (by simp [Value.cells, Ms.c_len]) ?_
        intro bl
        refine d_held (H2 4 3 I) (a_all1 1 (by kernel_rfl) I I (e_call_00 (aof_leaf nv hlf) I I I call270 I Tt ?_))
        intro _ _
        refine d_held (H2 4 3 I) (Aq 2 I (H2 4 3 I) (q_field I U363 I isAgg361 I I) (a_all1 6 (by kernel_rfl) I I (e_callF (atake_leaf nv [m] (rises_one hr hr2) (by show nv.d.es.length + 1 ≤ 60000; omega)) I I I I call297 I (fun _ h => ⟨hE.keep h, lit_rd (h.at 0 I) Ms.enc [m] I rfl⟩) ?_)))
        rintro ⟨s, own⟩ ⟨ho, _⟩
        have ho2 := ho (by simp)
        dsimp only at ho2
        subst ho2
        refine rowO_own (d_held (H2 5 4 I) (pull2 (a_all1 8 (by kernel_rfl) I I (e_storeAgg I I Z135 I I I (NV.one _) (by show 0 + 5 ≤ 5; decide) (cells_eq (show Sep.splice _ 0 ((⟨⟨s, nv.s.k, nv.s.p, nv.s.m⟩, insL nv.d m⟩ : NV)).c = ((⟨⟨s, nv.s.k, nv.s.p, nv.s.m⟩, insL nv.d m⟩ : NV)).c from Sep.splice_all I) (d_held (H2 5 4 I) (a_nil (by kernel_rfl) (pull2 (drop0 (pull4 (pull4 (pull4 (pull3 (pull4 ?_))))))))))))))
        exact k_meet ((s, bx)) trivial (Sub.cons I (Sub.cons I (Sub.cons I (Sub.nil)))) (fun _ h => h)
  · intro s bx _
    refine c_seq (Cs I (Lq I (q_loadCAgg ((⟨⟨s, nv.s.k, nv.s.p, nv.s.m⟩, insL nv.d m⟩ : NV).c) I G135 Z135 I (Hat 1 I) (I) (I)) (l_e I (e_call_00 (nfits_leaf (⟨⟨s, nv.s.k, nv.s.p, nv.s.m⟩, insL nv.d m⟩ : NV) hlf ⟨by show (lput nv.d.es m).length ≤ 60000; have : (lput nv.d.es m).length ≤ nv.d.es.length + 1 := hin; omega, Nat.le_trans n2 (by decide), Nat.le_trans n3 (by decide), Nat.le_trans n4 (by decide)⟩) I I I call216 I (fun _ h => ⟨h.rd 0 rfl, hE.k.keep h (by simp), hE.p.keep h (by simp), hE.m.keep h (by simp)⟩) ?_))))
    intro _ _
    refine Lq I (q_not I I) (Nk ?_)
    refine Pre.caseB 16 I (fun hf => ?_) (fun hf => ?_)
    · try simp only [B4] at hf
      refine c_true I (Cs I (Lq I (q_loadCAgg (nv.c) I G135 Z135 I (Hat 4 I) (I) (I)) (pull2 (l_e I (e_storeAgg I I Z135 I I I (NV.one _) (by show 0 + 5 ≤ 5; decide) (cells_eq (show Sep.splice _ 0 (nv).c = (nv).c from Sep.splice_all I) (Ak I (c_ret (k_then_ret (pull1 (r_res2 I (res_cellA I G135 Z135 (Hat 1 I) (I)) (show Sep.look _ _ = some _ from I) ?_)))))))))))
      exact fun _ h => ⟨s, by dsimp only; rw [if_neg (by rw [show fitL (insL nv.d m) = false from hf]; decide)], trivial, h.sublist (List.cons_sublist_cons.2 (List.nil_sublist _))⟩
    · try simp only [B4] at hf
      refine c_false I (c_skip (Kt (Cs I (Lq I (q_loadCAgg ((⟨⟨s, nv.s.k, nv.s.p, nv.s.m⟩, insL nv.d m⟩ : NV).c) I G135 Z135 I (Hat 1 I) (I) (I)) (pull2 (l_e I (e_storeAgg I I Z135 I I I (NV.one _) (by show 0 + 5 ≤ 5; decide) (cells_eq (show Sep.splice _ 0 ((⟨⟨s, nv.s.k, nv.s.p, nv.s.m⟩, insL nv.d m⟩ : NV)).c = ((⟨⟨s, nv.s.k, nv.s.p, nv.s.m⟩, insL nv.d m⟩ : NV)).c from Sep.splice_all I) (Ak I (c_ret (pull1 (r_res2 I (res_cellA I G135 Z135 (Hat 1 I) (I)) (show Sep.look _ _ = some _ from I) ?_))))))))))))
      exact fun _ h => ⟨s, by dsimp only; rw [if_pos (show fitL (insL nv.d m) = true from hf)], trivial, h.sublist (List.cons_sublist_cons.2 (List.nil_sublist _))⟩
end Go.Proofs.YtloldofjddbjoaaGreat
namespace Go.Proofs.YtloldofjddbjoaaGreat
open Go.Sep Go.RowKit Tryz
def blk0 : List Int := [1, 0, 0, 0] ++ List.replicate 252 0
def blkL : List Int := [1, 0, 0, 0] ++ le (crcC blk0) 4 ++ List.replicate 248 0
theorem blk0_len : blk0.length = 256 := by unfold blk0; rw [List.length_append, List.length_replicate]; rfl
theorem blkL_len : blkL.length = 256 := by unfold blkL; rw [List.length_append, List.length_append, List.length_replicate, le_length]; rfl
theorem blk0_app : [1, 0, 0, 0] ++ List.replicate 4 (0 : Int) ++ List.replicate 248 0 = blk0 := by
  unfold blk0; rw [List.append_assoc, List.replicate_append_replicate]
theorem blk_splice (pre post : List Value) : Sep.splice (pre ++ (encI .u8).flat blk0 ++ post) (pre.length + 4) ((encI .u8).flat (le (crcC blk0) 4)) = pre ++ (encI .u8).flat blkL ++ post := by
  have h0 : blk0 = [1, 0, 0, 0] ++ (List.replicate 4 0 ++ List.replicate 248 0) := by rw [← List.append_assoc, blk0_app]
  have h1 : (encI .u8).flat blk0 = (encI .u8).flat [1, 0, 0, 0] ++ ((encI .u8).flat (List.replicate 4 0) ++ (encI .u8).flat (List.replicate 248 0)) := by
    conv => lhs; rw [h0]
    rw [Enc.flat_append, Enc.flat_append]
  have h2 : (encI .u8).flat blkL = (encI .u8).flat [1, 0, 0, 0] ++ (encI .u8).flat (le (crcC blk0) 4) ++ (encI .u8).flat (List.replicate 248 0) := by
    unfold blkL; rw [Enc.flat_append, Enc.flat_append]
  have hA : (pre ++ (encI .u8).flat [1, 0, 0, 0]).length = pre.length + 4 := by rw [List.length_append, Enc.flat_len]; rfl
  have := Sep.splice_part ((encI .u8).flat (le (crcC blk0) 4)) ((encI .u8).flat (List.replicate 4 0)) (pre ++ (encI .u8).flat [1, 0, 0, 0]) ((encI .u8).flat (List.replicate 248 0) ++ post) (by rw [Enc.flat_len, Enc.flat_len, List.length_replicate, le_length])
  rw [hA] at this
  rw [h1, h2]
  simp only [List.append_assoc] at this ⊢
  exact this
theorem blk_clear (pre post : List Value) : Sep.splice (pre ++ (encI .u8).flat blkL ++ post) (pre.length + 4) (List.replicate 4 (.int .u8 0)) = pre ++ (encI .u8).flat blk0 ++ post := by
  have h0 : blk0 = [1, 0, 0, 0] ++ (List.replicate 4 0 ++ List.replicate 248 0) := by rw [← List.append_assoc, blk0_app]
  have h1 : (encI .u8).flat blk0 = (encI .u8).flat [1, 0, 0, 0] ++ ((encI .u8).flat (List.replicate 4 0) ++ (encI .u8).flat (List.replicate 248 0)) := by
    conv => lhs; rw [h0]
    rw [Enc.flat_append, Enc.flat_append]
  have h2 : (encI .u8).flat blkL = (encI .u8).flat [1, 0, 0, 0] ++ ((encI .u8).flat (le (crcC blk0) 4) ++ (encI .u8).flat (List.replicate 248 0)) := by
    unfold blkL; rw [List.append_assoc, Enc.flat_append, Enc.flat_append]
  have hA : (pre ++ (encI .u8).flat [1, 0, 0, 0]).length = pre.length + 4 := by rw [List.length_append, Enc.flat_len]; rfl
  have h4 : (encI .u8).flat (List.replicate 4 0) = List.replicate 4 (.int .u8 0) := rfl
  have := Sep.splice_part (List.replicate 4 (.int .u8 0)) ((encI .u8).flat (le (crcC blk0) 4)) (pre ++ (encI .u8).flat [1, 0, 0, 0]) ((encI .u8).flat (List.replicate 248 0) ++ post) (by rw [Enc.flat_len, List.length_replicate, le_length]; rfl)
  rw [hA] at this
  rw [h1, h2, h4]
  simp only [List.append_assoc] at this ⊢
  exact this
theorem blkL_mid : (blkL.take 8).drop 4 = le (crcC blk0) 4 := by
  unfold blkL
  have hl : ([1, 0, 0, 0] ++ le (crcC blk0) 4).length = 8 := by rw [List.length_append, le_length]; rfl
  rw [List.take_append_of_le_length (by omega), List.take_of_length_le (by omega)]
  exact List.drop_left' I
theorem blkL_0 : blkL[0]? = some 1 := rfl
theorem blkL_1 : blkL[1]? = some 0 := rfl
theorem blkL_2 : blkL[2]? = some 0 := rfl
theorem cput_empty (vb : Value) : Con Tryz.prog 217 [vb, .agg nvL.c.toArray] (fun _ => True) [] (fun _ : Unit => vb) (fun _ => True) (fun _ => []) := by
  intro w hE hH
  refine enter (n := 105) (vs := [vb, .agg nvL.c.toArray]) (St w [] []) func217 I I I (St.init hH) ?_
  refine Cs I (l_e I (e_box I I I I ?_))
  intro bn
  refine cells_eq (show _ = nvL.c from I) (Ak I (c_seq (Cs I (Lfa U135 I Z49 I (Lo G49 0 I (Lq I (q_len I U49 I) (Lm I (Nk (c_block ?_)))))))))
  refine c_loop1 (fun (u : Unit) => [(0, vb), (3, .pointer (some ⟨bn, 0, none⟩)), (15, .int .i64 ((0 : Nat) : Int)), (16, .int .i64 ((0 : Nat) : Int))]) (fun (u : Unit) => St w [] [cellsE bn 135 nvL.c]) (fun (u : Unit) => True) (fun (u : Unit) => 0) (()) trivial (Sn I (Sn I (Sn I (Sn I (Sub.nil))))) Ih ?_
  intro u _
  refine Cs I (Lq I (q_lss I I I) (Ns (Sb 17 false I (I) (c_false I (c_exit (k_then_exit (k_then_exit (k_block_exit (Ks (Cs I (Lfa U135 I Z22 I (Lo G22 0 I (Lq I (q_len I U22 I) (Lm I (Nk (c_block ?_))))))))))))))))
  refine c_loop1 (fun (u : Unit) => [(0, vb), (3, .pointer (some ⟨bn, 0, none⟩)), (38, .int .i64 ((0 : Nat) : Int)), (39, .int .i64 ((0 : Nat) : Int))]) (fun (u : Unit) => St w [] [cellsE bn 135 nvL.c]) (fun (u : Unit) => True) (fun (u : Unit) => 0) (()) trivial (Sn I (Sn I (Sn I (Sn I (Sub.nil))))) Ih ?_
  intro u _
  refine Cs I (Lq I (q_lss I I I) (Ns (Sb 40 false I (I) (c_false I (c_exit (k_then_exit (k_then_exit (k_block_exit (Ks (Cs I (Lfa U135 I Z132 I (Lo isAgg132 0 I (Lq I (q_len I U132 I) (Lm I (Nk (c_block ?_))))))))))))))))
  refine c_loop1 (fun (u : Unit) => [(0, vb), (3, .pointer (some ⟨bn, 0, none⟩)), (50, .int .i64 ((0 : Nat) : Int)), (51, .int .i64 ((0 : Nat) : Int))]) (fun (u : Unit) => St w [] [cellsE bn 135 nvL.c]) (fun (u : Unit) => True) (fun (u : Unit) => 0) (()) trivial (Sn I (Sn I (Sn I (Sn I (Sub.nil))))) Ih ?_
  intro u _
  refine Cs I (Lq I (q_lss I I I) (Ns (Sb 52 false I (I) (c_false I (c_exit (k_then_exit (k_then_exit (k_block_exit (Ks (Cs I (Lfa U135 I Z133 I (Lo isAgg133 0 I (Lq I (q_len I U133 I) (Lm I (Nk (c_block ?_))))))))))))))))
  refine c_loop1 (fun (u : Unit) => [(0, vb), (3, .pointer (some ⟨bn, 0, none⟩)), (64, .int .i64 ((0 : Nat) : Int)), (65, .int .i64 ((0 : Nat) : Int))]) (fun (u : Unit) => St w [] [cellsE bn 135 nvL.c]) (fun (u : Unit) => True) (fun (u : Unit) => 0) (()) trivial (Sn I (Sn I (Sn I (Sn I (Sub.nil))))) Ih ?_
  intro u _
  refine Cs I (Lq I (q_lss I I I) (Ns (Sb 66 false I (I) (c_false I (c_exit (k_then_exit (k_then_exit (k_block_exit (Kt (Cs I (Lm I (Ak I (c_ret (r_one I I ?_))))))))))))))
  exact fun _ h => ⟨(), rfl, trivial, h.nothing⟩
theorem nvL_sm (B : Nat) : nvL.d.Sm B := ndL_sm B
theorem nvL_rd (w : World) : NRd w nvL := ⟨rd_nil _, rd_nil _, rd_nil _, rd_nil _⟩
theorem nvL_fit : fitL nvL.d = true := by decide
theorem cencode_empty  : Con Tryz.prog 145 [.agg nvL.c.toArray] (fun _ => True) [] (fun v : Value => .tuple #[v, .int .i64 0]) (fun _ => True) (fun v => [rowE v 5 (encI .u8) blkL]) := by
  intro w hE hH
  refine enter (n := 40) (vs := [.agg nvL.c.toArray]) (St w [] []) func145 I I I (St.init hH) ?_
  refine Cs I (l_e I (e_box I I I I ?_))
  intro bn
  refine cells_eq (show _ = nvL.c from I) (Las I (Ak I (c_seq (Cs I (Lq I (q_loadCAgg (nvL.c) I G135 Z135 I (Hat 0 I) (I) (I)) (l_e I (e_call_00 (nfits_leaf nvL I (nvL_sm _)) I I I call216 I (fun _ _ => nvL_rd _) ?_)))))))
  intro _ _
  refine Lq I (q_not I I) (Nk (Sb 9 false I (by rw [nvL_fit]; rfl) (c_false I (c_skip (Ks (D4 [(0,O),(1,O),(2,O),(3,O),(4,W)] [4] [(_,O),(_,O),(_,O),(_,O),(_,W)] _ I I I I St.drawn Ih (Dfa U135 I Z22 I (Dq I (q_loadC I G22 I (Hat 0 I) I) (Dq I (q_len I U22 I) (Das I (d_t I (e_q I I (q_assign I I) (d_nil (Ks (Cs I (Lfa U135 I Z4 I (Lo G4 0 I (Nk (c_true I (D4 [(0,O),(1,O),(2,O),(3,O),(4,W)] [4] [(_,O),(_,O),(_,O),(_,O),(_,W)] _ I I I I St.drawn Ih (Dfa U135 I Z49 I (Dq I (q_loadC I G49 I (Hat 0 I) I) (Dq I (q_len I U49 I) ?_)))))))))))))))))))))))
  refine Das I (d_t I (e_q I I (q_assign I I) (d_nil (Ks (D4 [(0,O),(1,O),(2,O),(3,O),(4,O),(5,O),(6,O),(9,O),(7,V),(8,V),(10,V),(11,W)] [11] [(_,O),(_,O),(_,O),(_,O),(_,O),(_,O),(_,O),(_,O),(_,V),(_,V),(_,V),(_,W)] (fun w2 => (cellsE bn 135 nvL.c).at w2) I I I I St.drawn (Hat 0 I) (Dm I (Dm I (Dq I (q_conv_in (p := 0) I U3 U5 I (wrapu8_in (by decide))) (Dfa U135 I Z133 I (Dq I (q_loadC I isAgg133 I Ih I) (Dq I (q_len I U133 I) (Dq I (q_conv_in (p := 0) I U3 U5 I (wrapu8_in (by decide))) (Dq I (q_loadCAgg (nvL.c) I G135 Z135 I Ih (I) (I)) (d_e I (e_buildSliceV (sz := 1) [.tmp 18, .tmp 20, .tmp 24, .const (.int .u8 0)] I I I I I U23 Z5 I zeroValue5 I ?_)))))))))))))))
  intro bb
  refine d_held (Hat 1 I) (rowLit (encI .u8) [1, 0, 0, 0] I I (d_e I (e_appendZ (E := encI .u8) (m := 4) (a0 := (0 : Int)) I I I U23 U3 info5 I I I I I (by simp only [byt5]; simp) (by simp) ?_)))
  intro v1
  refine row_eq (l' := [1, 0, 0, 0] ++ List.replicate 4 (0 : Int)) (I) (d_held (Hat 1 I) (d_e I (e_call_00 (cput_empty v1) I I I call217 I Tt ?_)))
  intro _ _
  refine d_held (Hat 1 I) (d_t I (e_q I I (q_assign I I) (d_nil (Ks ?_))))
  have hl8 : ([1, 0, 0, 0] ++ List.replicate 4 (0 : Int)).length = 8 := rfl
  refine Cr I (Lm I (Lm I (Lq I (q_lenV I U23 I (Hrd 0 I)) (Lq I (q_sub64 I I I (by simp)) (Sv' 32 (.int .i64 ((248 : Nat) : Int)) I (by rw [hl8]; rfl) (l_e I (e_appendZ (E := encI .u8) (m := 248) (a0 := (0 : Int)) I I I U23 U3 info5 I I I I I (by simp only [byt5]; simp) (by simp) ?_)))))))
  intro v2
  refine row_eq (l' := blk0) (blk0_app) (Ak I (c_seq ?_))
  refine row_letters (by rw [blk0_len]; decide) (fun b0 cap pre post hv hcap hpost => ?_)
  subst hv
  rw [blk0_len] at hcap hpost
  rw [blk0_len]
  have hcl : (pre ++ (encI .u8).flat blk0 ++ post).length = pre.length + 256 + post.length := by rw [List.length_append, List.length_append, Enc.flat_len, blk0_len]; rfl
  refine D4 [(0,O),(1,O),(2,O),(3,V),(4,W)] [4] [(_,O),(_,O),(_,O),(_,V),(_,W)] (fun w2 => (cellsE b0 5 (pre ++ (encI .u8).flat blk0 ++ post)).at w2) I I I I St.drawn (Hat 0 I) (Dm I (Dq I (q_sliceL 4 I U23 Z5 I I I (by omega)) (Dm I (Sv' 35 (.slice (some ⟨b0, pre.length + 4, none⟩) 252 (cap - 4)) I (by rw [if_neg (show ¬ cap = 4 by omega)]) (d_e I (e_call_01 (codsum_spec blk0 (by rw [blk0_len]; decide)) I I I call218 I (fun _ h => by have := cellsE_rd (h.at 0 I) (encI .u8) blk0 pre.length cap pre post I I (by rw [blk0_len]; exact hcap); rwa [blk0_len] at this) ?_))))))
  intro v3 _
  refine d_held (Hat 1 I) ?_
  have hs4 : (le (crcC blk0) 4).length = 4 := le_length _ _
  refine Pre.fact (fun _ h => row_sl (h.at 0 I)) ?_
  rintro ⟨sa, sc, rfl⟩
  refine pull1 (d_t I (e_copyW (E := encI .u8) (sa := sa) (sl := (le (crcC blk0) 4).length) (sc := sc) (sc' := sc) (m := le (crcC blk0) 4) 4 I I I U23 Z5 I I (by rw [hs4]; rfl) (fun _ h => by have := h.rd 1 rfl; rw [hs4] at this; exact this) (by rw [hcl]; show pre.length + 4 + 4 * 1 ≤ _; omega) (cells_eq (blk_splice pre post) (d_nil (Ks (row_shut (E := encI .u8) (len := 256) (cap := cap) blkL pre post I blkL_len (by omega) hcap hpost (Cr I (Lm I (Las I (Ak I (c_ret (r_many (rs := [.tmp 2, .tmp 3]) I I ?_))))))))))))
  exact fun _ h => ⟨_, rfl, trivial, h.sublist (List.cons_sublist_cons.2 (List.nil_sublist _))⟩
theorem bclone_spec {va : Value} (l : List Int) (hn : l.length ≤ 65536) : Con Tryz.prog 228 [va] (fun w => RdV w va (encI .u8) l) [] (fun v : Value => v) (fun _ => True) (fun v => [rowE v 5 (encI .u8) l]) := by
  intro w hl hH
  obtain ⟨a, c, rfl⟩ := rd_sl hl
  refine enter (n := 8) (vs := [.slice a l.length c]) (St w [] []) func228 I I I (St.init hH) ?_
  refine Cs I (Ak I (c_seq (Cs I (Lm I (Lq I (q_eqsl I U23 I I) (Nk ?_))))))
  refine Pre.caseB 4 I (fun hn => ?_) (fun hn => ?_)
  · rw [Option.isNone_iff_eq_none] at hn
    subst hn
    have hl0 := rd_none hl
    subst hl0
    refine c_true I (Cs I (Ak I (c_ret (k_then_ret (row0 5 (encI .u8) none (r_one I I ?_))))))
    exact fun _ h => ⟨_, rfl, trivial, h⟩
  · refine c_false I (c_skip (Kt (Cs I (l_e I (e_buildSliceV (sz := 1) [] I I I I I U23 Z5 I zeroValue5 I ?_)))))
    intro b
    refine rowLit (encI .u8) [] I I (Lm I (l_e I (e_append I I I U23 U23 info5 I I I I I (fun _ h => hl.keep h (by simp)) (by simp only [byt5, List.length_append, List.length_cons, List.length_nil]; omega) (by simp only [List.length_append, List.length_cons, List.length_nil]; omega) ?_)))
    intro v
    refine Ak I (c_ret ?_)
    rw [List.nil_append]
    refine r_one I I ?_
    exact fun _ h => ⟨v, rfl, trivial, h⟩
theorem bequal_same {va vb : Value} (l : List Int) : Con Tryz.prog 229 [va, vb] (fun w => RdV w va (encI .u8) l ∧ RdV w vb (encI .u8) l) [] (fun _ : Unit => .bool true) (fun _ => True) (fun _ => []) := by
  intro w hE hH
  obtain ⟨ha, hb⟩ := hE
  refine enter (n := 10) (vs := [va, vb]) (St w [] []) func229 I I I (St.init hH) ?_
  refine Cs I (Ak I (Cs I (Lm I (Lq I (q_b2s I U23 U5 U9 I (fun _ h => ha.keep h (by simp [dom]))) (Lm I (Lq I (q_b2s I U23 U5 U9 I (fun _ h => hb.keep h (by simp [dom]))) (Lq I (q_eqs I I I) (Ak I (c_ret (r_one I I ?_))))))))))
  exact fun _ h => ⟨(), congrArg (fun z => Ending.returned (Value.bool z)) (by simp), trivial, h⟩
theorem some_e (vf : Value) : Con Tryz.prog 230 [.int .i64 0, vf] (fun _ => True) [] (fun _ : Unit => nil0) (fun _ => True) (fun _ => []) := by
  intro w hE hH
  refine enter (n := 16) (vs := [.int .i64 0, vf]) (St w [] []) func230 I I I (St.init hH) ?_
  refine Cs I (Ak I (Cs I (Ak I (c_seq (Cs I (Lm I (Lm I (Nk (c_block ?_)))))))))
  refine c_loop1 (fun (u : Unit) => [(5, nil0), (6, .int .i64 0), (7, .int .i64 0)]) (fun (u : Unit) => St w [] []) (fun (u : Unit) => True) (fun (u : Unit) => 0) (()) trivial (Sn I (Sn I (Sn I (Sub.nil)))) Ih ?_
  intro u _
  refine Cs I (Lq I (q_lss I I I) (Ns (Sb 8 false I (I) (c_false I (c_exit (k_then_exit (k_then_exit (k_block_exit (Kt (Cs I (Lm I (Ak I (c_ret (r_one I I ?_))))))))))))))
  exact fun _ h => ⟨(), rfl, trivial, h⟩
theorem some_m (vf : Value) : Con Tryz.prog 236 [.int .i64 0, vf] (fun _ => True) [] (fun _ : Unit => nil0) (fun _ => True) (fun _ => []) := by
  intro w hE hH
  refine enter (n := 16) (vs := [.int .i64 0, vf]) (St w [] []) func236 I I I (St.init hH) ?_
  refine Cs I (Ak I (Cs I (Ak I (c_seq (Cs I (Lm I (Lm I (Nk (c_block ?_)))))))))
  refine c_loop1 (fun (u : Unit) => [(5, nil0), (6, .int .i64 0), (7, .int .i64 0)]) (fun (u : Unit) => St w [] []) (fun (u : Unit) => True) (fun (u : Unit) => 0) (()) trivial (Sn I (Sn I (Sn I (Sub.nil)))) Ih ?_
  intro u _
  refine Cs I (Lq I (q_lss I I I) (Ns (Sb 8 false I (I) (c_false I (c_exit (k_then_exit (k_then_exit (k_block_exit (Kt (Cs I (Lm I (Ak I (c_ret (r_one I I ?_))))))))))))))
  exact fun _ h => ⟨(), rfl, trivial, h⟩
theorem cdecode_empty {vb : Value} : Con Tryz.prog 167 [vb] (fun w => RdV w vb (encI .u8) blkL) [] (fun _ : Unit => .tuple #[.agg nvL.c.toArray, .int .i64 0]) (fun _ => True) (fun _ => []) := by
  intro w hb hH
  have hl := blkL_len
  obtain ⟨ba, bc, rfl⟩ := rd_sl hb
  refine enter (n := 86) (vs := [.slice ba blkL.length bc]) (St w [] []) func167 I I I (St.init hH) ?_
  refine Cs I (l_e I (e_alloc I I I zeroValue135 ?_))
  intro br
  refine cells_eq (show _ = nv0.c from I) (Ak I (c_seq (Cs I (Lm I (Lq I (q_lenV I U23 I (fun _ h => hb.keep h (by simp [dom]))) (Lq I (q_neq I I I) (Nk (Sb 13 false I (by rw [hl]; rfl) (c_false I (c_skip (Kt (Cs I (Lm I (l_e I (e_call_01 (bclone_spec blkL (by rw [hl]; decide)) I I I call228 I (fun _ h => hb.keep h (by simp)) ?_)))))))))))))))
  intro vx _
  refine Ak I (Cs I (Lm I ?_))
  refine row_letters (by rw [hl]; decide) (fun b0 cap pre post hv hcap hpost => ?_)
  subst hv
  rw [hl] at hcap hpost
  rw [hl]
  have hl0 := blk0_len
  have hcl : (pre ++ (encI .u8).flat blkL ++ post).length = pre.length + 256 + post.length := by rw [List.length_append, List.length_append, Enc.flat_len, hl]; rfl
  refine Lq I (q_sliceV (E := encI .u8) (l := blkL) 4 8 I U23 Z5 I (fun _ h => by have := cellsE_rd (h.at 0 I) (encI .u8) blkL pre.length cap pre post I I (by rw [hl]; exact hcap); rwa [hl] at this) I I I I (by decide) (by rw [hl]; decide)) (Sv' 18 (.slice (some ⟨b0, pre.length + 4, none⟩) 4 (cap - 4)) I (by simp [vsl, show ¬ cap = 4 by omega, add_none, encI]) (l_e I (e_clearC I I U23 info5 I I I I (by rw [hcl]; omega) (cells_eq (blk_clear pre post) (Ns (c_seq (D4 [(0,O),(2,O),(3,O),(1,V),(4,W),(5,W)] [4, 5] [(_,O),(_,O),(_,O),(_,V),(_,W),(_,W)] (fun w2 => RdV w2 (.slice ba blkL.length bc) (encI .u8) blkL) I I I I St.drawn (fun _ h => hb.keep h (by simp)) (Dm I (Dm I (Dq I (q_sliceV 4 8 I U23 Z5 I Ih I I I I (by omega) (by omega)) (d_e I (e_call_01 (codsum_spec blk0 (by rw [hl0]; decide)) I I I call218 I (fun _ h => (by have := cellsE_rd (h.at 0 I) (encI .u8) blk0 pre.length cap pre post I I (by rw [hl0]; exact hcap); rwa [hl0] at this)) ?_))))))))))))
  intro v3 _
  refine d_held (fun _ h => hb.keep h (by simp)) (d_t I (e_call_00 (bequal_same (le (crcC blk0) 4)) I I I call229 I (fun _ h => ⟨h.rd 0 rfl, by have := vsl_rd (hb.keep h (by simp)) (lo := 4) (hi := 8) (by decide) (by rw [hl]; decide); rwa [blkL_mid] at this⟩) ?_))
  intro _ _
  refine d_t I (e_q I I (q_not I I) (d_nil (Kt (c_false I (c_skip (Kt (Cs I (Lm I (Lq I (q_build ([.slice ba blkL.length bc, .int .i64 8, .bool false]) I I (fun w => by kernel_rfl)) (l_e I (e_box I I I I ?_)))))))))))
  intro bq
  refine cells_eq (show _ = [.slice ba blkL.length bc, .int .i64 8, .bool false] from I) (Ak I (c_seq (D4 [(0,O),(1,O),(2,O),(3,O),(4,O),(5,O),(6,O),(7,O),(8,O),(9,O),(10,O),(11,O),(12,O),(13,V),(14,V),(15,O),(16,W)] [16] [(_,O),(_,O),(_,O),(_,O),(_,O),(_,O),(_,O),(_,O),(_,O),(_,O),(_,O),(_,O),(_,O),(_,V),(_,V),(_,O),(_,W)] (fun w2 => RdV w2 (.slice ba blkL.length bc) (encI .u8) blkL) I I I I St.drawn (fun _ h => hb.keep h (by simp)) (Dm I (Dq I (q_indexV 0 I U23 Z5 I Ih I I (by omega)) (Dq I (q_loadV 0 0 I G5 I I Ih blkL_0 I) (Dq I (q_eql I I I) (Dq I (q_build (nvL.c) I I (fun w => by kernel_rfl)) (Dm I (Dq I (q_indexV 1 I U23 Z5 I Ih I I (by omega)) (Dq I (q_loadV 1 0 I G5 I I Ih blkL_1 I) (Dq I (q_conv_in I U5 U3 I (by first | rfl | (simp only [IntKind.wrap]; omega) | exact wrap64_in (by omega))) (Dm I (Dq I (q_indexV 2 I U23 Z5 I Ih I I (by omega)) (Dq I (q_loadV 2 0 I G5 I I Ih blkL_2 I) (Dq I (q_conv_in I U5 U3 I (by first | rfl | (simp only [IntKind.wrap]; omega) | exact wrap64_in (by omega))) (d_e I (e_alloc I I I zeroValue135 ?_))))))))))))))))))
  intro bn
  refine cells_eq (show _ = nv0.c from I) (d_held (fun _ h => hb.keep h (by simp)) (d_e I (e_storeAgg I I Z135 I I I (NV.one _) (by show 0 + 5 ≤ 5; decide) (cells_eq (show Sep.splice _ 0 (nvL).c = (nvL).c from Sep.splice_all I) (d_held (fun _ h => hb.keep h (by simp)) (Das I (d_t I (e_q I I (q_assign I I) (d_nil (Ks (Cs I (Lfa U135 I Z4 I (Lo G4 0 I (Nk (c_true I (Cr I (Lm I (Lm I (Lq I (q_makeFunc (fn := .func 0) (vs := #[.pointer (some ⟨bq, 0, none⟩)]) (us := #[]) 231 I (fun a k => by simp [k.eval (x := .tmp 45) rfl]) (fun a k => by simp)) (l_e I (e_call_00 (some_e _) I I I call230 I Tt ?_)))))))))))))))))))))
  intro _ _
  refine Lfa U135 I Z49 I (l_e I (e_store I I Z49 I I I (by show 1 < 5; decide) (cells_eq (show _ = nvL.c from I) (Nk (Cs I (Lm I (Lm I (Lq I (q_makeFunc (fn := .func 0) (vs := #[.pointer (some ⟨bq, 0, none⟩)]) (us := #[]) 237 I (fun a k => by simp [k.eval (x := .tmp 61) rfl]) (fun a k => by simp)) (l_e I (e_call_00 (some_m _) I I I call236 I Tt ?_))))))))))
  intro _ _
  refine Lfa U135 I Z133 I (l_e I (e_store I I Z133 I I I (by show 4 < 5; decide) (cells_eq (show _ = nvL.c from I) (Ns (Cs I (Lq I (q_loadCAgg (nvL.c) I G135 Z135 I (Hat 0 I) (I) (I)) (l_e I (e_call_01 (cencode_empty) I I I call145 I Tt ?_))))))))
  intro vy _
  refine Lm I (Lq I (q_extract I I I) (Lq I (q_extract I I I) (Las I (Ak I (Cs I (Lm I (Lc I (Lfa underlying330 I Z4 I (Lo G4 2 I (Lm I (Lm I (Lq I (q_neq I I I) (Lq I (q_pick_f I I I) (Lm I (Sb 78 false I (I) (Lm I (Lm I (l_e I (e_call_00 (bequal_same blkL) I I I call229 I (fun _ h => ⟨h.rd 0 rfl, hb.keep h (by simp)⟩) ?_)))))))))))))))))))
  intro _ _
  refine Lq I (q_not I I) (Lq I (q_pick_f I I I) (Nk (c_false I (c_skip (Kt (Cs I (Lq I (q_loadCAgg (nvL.c) I G135 Z135 I (Hat 1 I) (I) (I)) (pull5 (l_e I (e_storeAgg I I Z135 I I I (NV.one _) (by show 0 + 5 ≤ 5; decide) (cells_eq (show Sep.splice _ 0 (nvL).c = (nvL).c from Sep.splice_all I) (Ak I (c_ret (r_res2 I (res_cellA I G135 Z135 (Hat 0 I) (I)) (show Sep.look _ _ = some _ from I) ?_))))))))))))))
  exact fun _ h => ⟨(), rfl, trivial, h.nothing⟩
structure Bk where
  l : List Int
  len : l.length = 256
def Bk.zero : Bk := ⟨List.replicate 256 0, List.length_replicate ..⟩
def Bk.c (b : Bk) : List Value := b.l.map (.int .u8)
theorem Bk.one (b : Bk) : ∀ v ∈ b.c, v.oneCell' = true := fun v hv => by
  obtain ⟨z, _, rfl⟩ := List.mem_map.1 hv; rfl
theorem Bk.c_len (b : Bk) : b.c.length = 256 := by unfold Bk.c; rw [List.length_map, b.len]
def Bk.enc : Enc Bk := ⟨256, Bk.c, Bk.c_len, Bk.one, by decide⟩
theorem Bk.flat (b : Bk) : (encI .u8).flat b.l = b.c := flat_u8 b.l
structure Sto where
  bl : List Bk
  us : List Bool
structure Sto.Ok (s : Sto) : Prop where
  len : s.bl.length = s.us.length
  n1 : 1 ≤ s.us.length
  n256 : s.us.length ≤ 256
namespace Sto
def is (s : Sto) (id : Int) : Bool := decide (0 ≤ id) && decide (id < s.us.length) && s.us.getD id.toNat false
def fr (s : Sto) : Option Nat := fst1 (fun u => !u) s.us
def alloc (s : Sto) (k : Nat) : Sto := ⟨s.bl.set k Bk.zero, s.us.set k true⟩
def put (s : Sto) (id : Nat) (b : Bk) : Sto := ⟨s.bl.set id b, s.us⟩
def used (s : Sto) : List Nat := (List.range s.us.length).filter (fun i => s.us.getD i false)
def left (s : Sto) : Nat := s.us.length - s.used.length
end Sto
abbrev stC (vB vU : Value) : List Value := [vB, vU]
abbrev SE (bs : Nat) (vB vU : Value) (s : Sto) : List Ent := [cellsE bs 161 [vB, vU], rowE vB 279 Bk.enc s.bl, rowE vU 4 encB s.us]
theorem is_of {s : Sto} {k : Nat} {u : Bool} (h : s.us[k]? = some u) : s.is (k : Int) = u := by
  have hlt := (List.getElem?_eq_some_iff.1 h).1
  unfold Sto.is
  rw [decide_eq_true (show (0 : Int) ≤ (k : Int) by omega), decide_eq_true (show (k : Int) < (s.us.length : Int) by omega), Int.toNat_natCast, List.getD_eq_getElem?_getD, h]; rfl
theorem is_no {s : Sto} {id : Int} (h : ¬ (0 ≤ id ∧ id < s.us.length)) : s.is id = false := by
  unfold Sto.is
  by_cases h0 : 0 ≤ id
  · rw [decide_eq_false (show ¬ id < (s.us.length : Int) from fun h1 => h ⟨h0, h1⟩), Bool.and_false]; rfl
  · rw [decide_eq_false h0]; rfl
theorem ur_snoc {l : List Bool} {i : Nat} {u : Bool} (h : l[i]? = some u) : (List.range (i + 1)).filter (fun i => l.getD i false) = (List.range i).filter (fun i => l.getD i false) ++ (if u then [i] else []) := by
  rw [List.range_succ, List.filter_append]
  congr 1
  have : l.getD i false = u := by rw [List.getD_eq_getElem?_getD, h]; rfl
  simp only [List.filter_cons, List.filter_nil, this]
section
variable {P : Program} {n : Nat} {L : Env} {X : World → Prop} {o : Oper} {Q : Exit → Act → World → Prop} {K : Act → World → Prop}
variable {w0 : World} {D : List Nat} {H : List Ent} {α : Type} {E : Enc α} {l : List α} {v : Value}
theorem q_indexL {t e : TypeId} {x i : Operand} {k : IntKind} {p : Int} (j n0 : Nat) (ho : o.op = .indexAddr t x i) (ht : P.underlying t = some (.slice e)) (hz : ∀ w, (sizeOf e).run P w = .ok E.sz w) (hx : ev L x = some v) (hr : ∀ w, X w → ∃ l : List α, l.length = n0 ∧ RdV w v E l) (hi : ev L i = some (.int k p)) (hp : p = (j : Int)) (hj : j < n0) :
    QOp P n L X o (.pointer (some ⟨blk v, offs v + j * E.sz, none⟩)) := fun a w kn hX => by
  obtain ⟨l, hl, h⟩ := hr w hX
  exact q_indexV (X := fun w' => w' = w) j ho ht hz hx (fun w' e => by subst e; exact h) hi hp (by omega) a w kn rfl
theorem rd_elem {β : Type} {F : Enc β} {w : World} {j m c : Nat} {a : α} {ms : List β} (h : RdV w v E l) (ha : l[j]? = some a) (hm : ms.length = m) (hc : m ≤ c) (hf : F.flat ms = E.f a) : RdV w (.slice (some ⟨blk v, offs v + j * E.sz, none⟩) m c) F ms := by
  subst hm
  refine ⟨_, c, rfl, hc, .inr ⟨blk v, offs v + j * E.sz, rfl, fun k u hk => ?_⟩⟩
  rw [hf] at hk
  exact rd_cell h ha hk
theorem e_copyElem {β : Type} {F : Enc β} {ms : List β} {t tx e ty : TypeId} {x y : Operand} {xv : Value} {off dn dc d : Nat} (j : Nat) (c : α) {a : α} (ho : o.op = .call ⟨.builtin .copy, #[y, x], #[t, tx]⟩) (hd : o.dst = some d) (hnn : d.blt n = true) (ht : P.underlying t = some (.slice e)) (hz : ∀ w, (sizeOf e).run P w = .ok F.sz w)
    (hy : ev L y = some (.slice (some ⟨blk v, off, none⟩) dn dc)) (hoff : off = offs v + j * E.sz) (hxv : ev L x = some xv) (hx : ∀ w, St w0 D (rowE v ty E l :: H) w → RdV w xv F ms) (hm : ms.length = dn) (hc : F.flat ms = E.f c) (ha : l[j]? = some a)
    (h : Pre n ((d, .int .i64 (dn : Nat)) :: L) (St w0 D (rowE v ty E (l.set j c) :: H)) K) : EOp P n L (St w0 D (rowE v ty E l :: H)) o Q K :=
  EOp.val (β := Unit) (fun _ => .int .i64 (dn : Nat)) (fun _ => True) (fun _ => St w0 D (rowE v ty E (l.set j c) :: H)) hd hnn (fun ac w kn hX => by
    have hj := (List.getElem?_eq_some_iff.1 ha).1
    have hr := hx w hX
    obtain ⟨b, cap, pre, post, hv, hlc, hp, h1⟩ := row_open hX (by omega)
    subst hv
    have hlen := E.flat_len l
    have hmul : (j + 1) * E.sz ≤ l.length * E.sz := Nat.mul_le_mul_right _ (by omega)
    rw [Nat.add_mul, Nat.one_mul] at hmul
    have hfl : (F.flat ms).length = ms.length * F.sz := F.flat_len ms
    have hcl : (F.flat ms).length = E.sz := by rw [hc, E.len]
    have hmin : min ms.length dn = ms.length := by omega
    have hfit : off + min ms.length dn * F.sz ≤ (pre ++ E.flat l ++ post).length := by
      rw [hmin, ← hfl, hcl]; subst hoff; simp only [offs, List.length_append, hlen]; omega
    obtain ⟨w', hr', h'⟩ := run_copy (P := P) (ty := o.type) (tx := tx) (dc := dc) ht hz h1 hr hfit
    rw [hmin, List.take_length] at h'
    have hset : Sep.splice (pre ++ E.flat l ++ post) off (F.flat ms) = pre ++ E.flat (l.set j c) ++ post := by
      subst hoff
      rw [hc]
      simp only [offs]
      rw [splice_eq _ _ _ (by simp only [List.length_append, hlen, E.len]; omega)]
      have e1 : l.set j c = l.take j ++ [c] ++ l.drop (j + 1) := by
        rw [List.set_eq_take_append_cons_drop]; simp [hj]
      rw [e1, E.flat_append, E.flat_append, ← E.flat_take, ← E.flat_drop, Nat.add_mul, Nat.one_mul, E.flat_cons, E.flat_nil, List.append_nil, E.len]
      have t1 : (pre ++ E.flat l ++ post).take (pre.length + j * E.sz) = pre ++ (E.flat l).take (j * E.sz) := by
        rw [List.append_assoc, List.take_length_add_append, List.take_append_of_le_length (by rw [hlen]; omega)]
      have t2 : (pre ++ E.flat l ++ post).drop (pre.length + j * E.sz + E.sz) = (E.flat l).drop (j * E.sz + E.sz) ++ post := by
        rw [List.append_assoc, Nat.add_assoc, List.drop_length_add_append, List.drop_append_of_le_length (by rw [hlen]; omega)]
      rw [t1, t2]
      simp only [List.append_assoc]
    rw [hset] at h'
    refine ⟨(), w', ?_, trivial, ?_⟩
    · have : min ms.length dn = dn := by omega
      rw [this] at hr'
      simp only [blk] at hy
      simp [execOp, ho, resolve, invoke, builtin, kn.eval hy, kn.eval hxv, hr']
    · have := row_close (cap := cap) h' (by omega) (by simpa using hlc) (by simpa using hp)
      simpa using this) (fun _ _ => h)
end
theorem bk_splice (pre post : List Value) (b : Bk) : Sep.splice (pre ++ (encI .u8).flat (List.replicate 256 0) ++ post) pre.length ((encI .u8).flat b.l) = pre ++ (encI .u8).flat b.l ++ post :=
  Sep.splice_part _ _ pre post (by rw [Enc.flat_len, Enc.flat_len, b.len, List.length_replicate])
theorem sis_spec {s : Sto} (hs : s.Ok) (bs : Nat) (vB vU : Value) (id : Int) : Con Tryz.prog 219 [.pointer (some ⟨bs, 0, none⟩), .int .i64 id] (fun _ => True) (SE bs vB vU s) (fun _ : Unit => .bool (s.is id)) (fun _ => True) (fun _ => SE bs vB vU s) := by
  intro w hE hH
  refine enter (n := 25) (vs := [.pointer (some ⟨bs, 0, none⟩), .int .i64 id]) (St w (dom (SE bs vB vU s)) (SE bs vB vU s)) func219 I I I (St.init hH) ?_
  refine c_seq ?_
  have hl1 := hs.len
  have hl2 := hs.n256
  refine Cr I (Ak I (Cs I (Lm I (Lq I (q_geq I I I) (Lm I ?_)))))
  refine Pre.caseB 7 I (fun h0 => ?_) (fun h0 => ?_)
  · try simp only [B4] at h0
    refine Lm I (Lm I (Lc I (Lfa U161 I Z159 I (Lo isAgg159 0 I (Lq I (q_lenV I U159 I (Hrd 2 I)) (Lq I (q_lss I I I) (Lq I (q_pick_t I I I) (Lm I ?_))))))))
    refine Pre.caseB 16 I (fun h1 => ?_) (fun h1 => ?_)
    · try simp only [B4] at h1
      obtain ⟨k, rfl⟩ := Int.eq_ofNat_of_zero_le (show 0 ≤ id by omega)
      obtain ⟨u, huk⟩ : ∃ u, s.us[k]? = some u := ⟨_, List.getElem?_eq_getElem (by omega)⟩
      refine Lm I (Lc I (Lfa U161 I Z159 I (Lo isAgg159 0 I (Lm I (Lq I (q_indexV k I U159 Z4 I (Hrd 2 I) I I (by omega)) (Lq I (q_loadV k 0 I G4 I I (Hrd 2 I) huk I) (Lq I (q_pick_t I I I) (Ak I (c_ret (r_one I I ?_))))))))))
      exact fun _ h => ⟨(), congrArg (fun z => Ending.returned (Value.bool z)) (is_of huk).symm, trivial, h⟩
    · try simp only [B4] at h1
      refine Lx I (Lx I (Lx I (Lx I (Lx I (Lx I (Lx I (Lq I (q_pick_f I I I) (Ak I (c_ret (r_one I I ?_))))))))))
      exact fun _ h => ⟨(), congrArg (fun z => Ending.returned (Value.bool z)) (is_no (by omega)).symm, trivial, h⟩
  · try simp only [B4] at h0
    refine Lx I (Lx I (Lx I (Lx I (Lx I (Lx I (Lx I (Lq I (q_pick_f I I I) (Lm I (Lx I (Lx I (Lx I (Lx I (Lx I (Lx I (Lx I (Lq I (q_pick_f I I I) (Ak I (c_ret (r_one I I ?_)))))))))))))))))))
    exact fun _ h => ⟨(), congrArg (fun z => Ending.returned (Value.bool z)) (is_no (by omega)).symm, trivial, h⟩
theorem sread_yes {s : Sto} (hs : s.Ok) (bs : Nat) (vB vU : Value) {k : Nat} {bk : Bk} (huk : s.us[k]? = some true) (hbk : s.bl[k]? = some bk) : Con Tryz.prog 166 [.pointer (some ⟨bs, 0, none⟩), .int .i64 (k : Int)] (fun _ => True) (SE bs vB vU s) (fun v : Value => .tuple #[v, .int .i64 0]) (fun _ => True) (fun v => rowE v 5 (encI .u8) bk.l :: SE bs vB vU s) := by
  intro w hE hH
  refine enter (n := 22) (vs := [.pointer (some ⟨bs, 0, none⟩), .int .i64 (k : Int)]) (St w (dom (SE bs vB vU s)) (SE bs vB vU s)) func166 I I I (St.init hH) ?_
  refine c_seq ?_
  have hl1 := hs.len
  have hl2 := hs.n256
  have hkl := (List.getElem?_eq_some_iff.1 hbk).1
  refine Cr I (Las I (Ak I (c_seq (Cs I (Lm I (Lm I (l_e I (e_call_33 (sis_spec hs bs vB vU k) I I I call219 I Tt ?_))))))))
  intro _ _
  refine Lq I (q_not I I) (Nk (Sb 10 false I (by rw [is_of huk]; rfl) (c_false I (c_skip (Kt (Cs I (l_e I (e_makeSlice (encI .u8) (0 : Int) 256 I I I U23 info5 I I I I I I I (by simp only [byt5]; decide) (by decide) ?_))))))))
  intro vb
  refine row_letters (by rw [List.length_replicate]; decide) (fun b0 cap pre post hv hcap hpost => ?_)
  subst hv
  rw [List.length_replicate] at hcap hpost
  rw [List.length_replicate]
  refine Ak I (Cs I (Lm I (Lm I (Lc I (Lfa U161 I sizeOf158 I (Lo isAgg158 1 I (Lm I (Lq I (q_indexV k I U158 sizeOf279 I (Hrd 2 I) I I (by omega)) (Lq I (q_sliceArr I underlying279 Z5 I) ?_)))))))))
  have hcl : (pre ++ (encI .u8).flat (List.replicate 256 0) ++ post).length = pre.length + 256 + post.length := by rw [List.length_append, List.length_append, Enc.flat_len, List.length_replicate]; rfl
  refine l_e I (e_copyW (E := encI .u8) (sc' := 256) (m := bk.l) 256 I I I U23 Z5 I I I (fun _ h => rd_elem (h.rd 2 I) hbk bk.len (Nat.le_refl _) bk.flat) (by rw [hcl]; show pre.length + 256 * 1 ≤ _; omega) (cells_eq (bk_splice pre post bk) (row_shut (E := encI .u8) (len := 256) (cap := cap) bk.l pre post I bk.len (by omega) hcap hpost (Nk (Cs I (Lm I (Las I (Ak I (c_ret (pull3 (pull3 (pull3 (pull3 (r_many (rs := [.tmp 4, .tmp 5]) I I ?_))))))))))))))
  exact fun _ h => ⟨_, rfl, trivial, h⟩
theorem swrite_yes {s : Sto} (hs : s.Ok) (bs : Nat) (vB vU : Value) {vb : Value} {k : Nat} {bk : Bk} (nb : Bk) (huk : s.us[k]? = some true) (hbk : s.bl[k]? = some bk) : Con Tryz.prog 146 [.pointer (some ⟨bs, 0, none⟩), .int .i64 (k : Int), vb] (fun _ => True) (rowE vb 5 (encI .u8) nb.l :: SE bs vB vU s) (fun _ : Unit => .int .i64 0) (fun _ => True) (fun _ => rowE vb 5 (encI .u8) nb.l :: SE bs vB vU (s.put k nb)) := by
  intro w hE hH
  refine enter (n := 25) (vs := [.pointer (some ⟨bs, 0, none⟩), .int .i64 (k : Int), vb]) (St w (dom (rowE vb 5 (encI .u8) nb.l :: SE bs vB vU s)) (rowE vb 5 (encI .u8) nb.l :: SE bs vB vU s)) func146 I I I (St.init hH) ?_
  refine c_seq ?_
  have hl1 := hs.len
  have hl2 := hs.n256
  have hkl := (List.getElem?_eq_some_iff.1 hbk).1
  have hnl := nb.len
  refine Cr I (Ak I (c_seq (c_block (Cs I (Lm I (Lm I (pull3 (pull3 (pull3 (l_e I (e_call_33 (sis_spec hs bs vB vU k) I I I call219 I Tt ?_)))))))))))
  intro _ _
  refine Lq I (q_not I I) (Ak I (Sb 7 false I (by rw [is_of huk]; rfl) (c_false I (Cs I (Lm I (Lq I (q_lenV I U23 I (Hrd 3 I)) (Lq I (q_neq I I I) (Ak I (Sb 12 false I (by rw [hnl]; rfl) (c_false I (c_skip (k_block (Kt (Cs I (Lm I (Lc I (Lfa U161 I sizeOf158 I (Lo isAgg158 0 I (Lm I (Lq I (q_indexV k I U158 sizeOf279 I (Hrd 1 I) I I (by omega)) (Lq I (q_sliceArr I underlying279 Z5 I) (Lm I (pull1 ?_)))))))))))))))))))))))
  refine l_e I (e_copyElem (F := encI .u8) (ms := nb.l) k nb I I I U23 Z5 I I I (Hrd 3 I) hnl nb.flat hbk (Nk (Cs I (Ak I (c_ret (pull2 (pull1 (pull2 (pull3 (r_one I I ?_))))))))))
  exact fun _ h => ⟨(), rfl, trivial, h⟩
theorem salloc_spec {s : Sto} (hs : s.Ok) (bs : Nat) (vB vU : Value) : Con Tryz.prog 103 [.pointer (some ⟨bs, 0, none⟩)] (fun _ => True) (SE bs vB vU s) (fun _ : Unit => (match s.fr with | some k => .tuple #[.int .i64 (k : Int), .int .i64 0] | none => .tuple #[.int .i64 0, .int .i64 3])) (fun _ => True) (fun _ => SE bs vB vU (match s.fr with | some k => s.alloc k | none => s)) := by
  intro w hE hH
  refine enter (n := 33) (vs := [.pointer (some ⟨bs, 0, none⟩)]) (St w (dom (SE bs vB vU s)) (SE bs vB vU s)) func103 I I I (St.init hH) ?_
  refine c_seq ?_
  have hl1 := hs.len
  have hl2 := hs.n256
  refine Cr I (Las I (Ak I (c_seq (Cs I (Lm I (Lc I (Lfa U161 I Z159 I (Lo isAgg159 0 I (Lq I (q_lenV I U159 I (Hrd 2 I)) (Lm I (Nk (c_block ?_))))))))))))
  refine c_loop1 (fun (i : Nat) => [(0, .pointer (some ⟨bs, 0, none⟩)), (9, vU), (10, .int .i64 (s.us.length : Int)), (11, .int .i64 (i : Int))]) (fun (i : Nat) => St w (dom (SE bs vB vU s)) (SE bs vB vU s)) (fun (i : Nat) => i ≤ s.us.length ∧ ∀ z ∈ s.us.take i, (!z) = false) (fun (i : Nat) => s.us.length - i) (0) ⟨Nat.zero_le _, by simp⟩ (Sn I (Sn I (Sn I (Sn I (Sub.nil))))) Ih ?_
  intro i hp
  refine c_seq ?_
  obtain ⟨hi, hno⟩ := hp
  refine Cr I (Lq I (q_lss I I I) (Ns ?_))
  refine Pre.caseB 12 I (fun h1 => ?_) (fun h1 => ?_)
  · try simp only [B4] at h1
    obtain ⟨u, hu⟩ : ∃ u, s.us[i]? = some u := ⟨_, List.getElem?_eq_getElem (by omega)⟩
    obtain ⟨bk, hbk⟩ : ∃ u, s.bl[i]? = some u := ⟨_, List.getElem?_eq_getElem (by omega)⟩
    refine c_true I (c_skip (Ks (c_block (Cs I (Lm I (Lq I (q_indexV i I U159 Z4 I (Hrd 2 I) I I (by omega)) (Lq I (q_loadV i 0 I G4 I I (Hrd 2 I) hu I) (Las I (Ak I (Cs I (Lm I (Lq I (q_not I I) (Nk ?_)))))))))))))
    refine Pre.caseB 17 I (fun hun => ?_) (fun hun => ?_)
    · try simp only [B4] at hun
      subst hun
      have hfr : s.fr = some i := fst1_some hu rfl hno
      refine c_true I (c_seq (D4 [(0,O),(1,O),(2,O),(3,O),(4,O),(5,O),(6,O),(7,O),(8,O),(9,O),(10,O),(11,O),(12,V),(13,W),(14,W)] [13, 14] [(_,O),(_,O),(_,O),(_,O),(_,O),(_,O),(_,O),(_,O),(_,O),(_,O),(_,O),(_,O),(_,V),(_,W),(_,W)] (fun w2 => (cellsE bs 161 [vB, vU]).at w2 ∧ RdV w2 vB Bk.enc s.bl ∧ ∃ us : List Bool, us.length = s.us.length ∧ RdV w2 vU encB us) rfl rfl rfl rfl St.drawn (fun _ h => ⟨h.at 0 rfl, h.rd 1 rfl, _, by first | rfl | (rw [List.length_set]), h.rd 2 rfl⟩) (Dm I (Dc I (Dfa U161 I Z159 I (Dq I (q_loadC I isAgg159 I (fun _ h => h.1) I) (Dm I (Dm I (Dc I (Dfa U161 I sizeOf158 I (Dq I (q_loadC I isAgg158 I (fun _ h => h.1) I) (Dm I (Dq I (q_build (Bk.zero.c) I I (fun w => by kernel_rfl)) (Dq I (q_indexL i s.us.length I U159 Z4 I (fun _ h => h.2.2) I I (by omega)) (pull2 (d_e I (e_storeV i 0 true I I Z4 I I I hu (by decide) I (d_held (fun _ h => ⟨h.at 1 rfl, h.rd 2 rfl, _, by first | rfl | (rw [List.length_set]), h.rd 0 rfl⟩) (d_t I (e_q I I (q_indexV i I U158 sizeOf279 I (Hrd 2 I) I I (by omega)) (pull2 (d_t I (e_storeVAgg i Bk.zero I I sizeOf279 I I I I (by omega) ?_)))))))))))))))))))))))
      refine d_nil (Kt (Cs I (Lm I (Las I (Ak I (c_ret (k_block_ret (k_then_ret (k_then_ret (k_block_ret (k_then_ret (pull1 (pull1 (pull2 (r_many (rs := [.tmp 2, .tmp 3]) I I ?_)))))))))))))))
      exact fun _ h => ⟨(), by rw [hfr], trivial, by rw [hfr]; exact h⟩
    · try simp only [B4] at hun
      subst hun
      refine c_false I (c_skip (k_block (Kt (Cr I (Lq I (q_inc I I I (by omega)) (Lm I (l_nil ?_)))))))
      exact k_round (i + 1) (by omega) ⟨by omega, take_none hno hu rfl⟩ (Sub.cons I (Sub.cons I (Sub.cons I (Sub.cons I (Sub.nil))))) (fun _ h => h)
  · try simp only [B4] at h1
    have hfr : s.fr = none := by unfold Sto.fr; rw [List.take_of_length_le (by omega)] at hno; exact fst1_none hno
    refine c_false I (c_exit (k_then_exit (k_then_exit (k_block_exit (Kt (Cs I (Las I (Ak I (c_ret (r_many (rs := [.tmp 2, .tmp 3]) I I ?_))))))))))
    exact fun _ h => ⟨(), by rw [hfr], trivial, by rw [hfr]; exact h⟩
def nI (l : List Nat) : List Int := l.map (fun k : Nat => (k : Int))
theorem nI_len (l : List Nat) : (nI l).length = l.length := List.length_map ..
theorem used_snoc {s : Sto} {i : Nat} {u : Bool} (h : s.us[i]? = some u) : nI ((List.range (i + 1)).filter (fun i => s.us.getD i false)) = nI ((List.range i).filter (fun i => s.us.getD i false)) ++ (if u then [(i : Int)] else []) := by
  rw [ur_snoc h]; unfold nI; rw [List.map_append]; cases u <;> rfl
theorem sused_spec {s : Sto} (hs : s.Ok) (bs : Nat) (vB vU : Value) : Con Tryz.prog 34 [.pointer (some ⟨bs, 0, none⟩)] (fun _ => True) (SE bs vB vU s) (fun v : Value => v) (fun _ => True) (fun v => rowE v 3 (encI .i64) (nI s.used) :: SE bs vB vU s) := by
  intro w hE hH
  refine enter (n := 23) (vs := [.pointer (some ⟨bs, 0, none⟩)]) (St w (dom (SE bs vB vU s)) (SE bs vB vU s)) func34 I I I (St.init hH) ?_
  refine c_seq ?_
  have hl1 := hs.len
  have hl2 := hs.n256
  refine Cr I (Ak I (Cs I (Ak I (c_seq (Cs I (Lm I (Lc I (Lfa U161 I Z159 I (Lo isAgg159 0 I (Lq I (q_lenV I U159 I (Hrd 2 I)) (Lm I (Nk (c_block (row0 3 (encI .i64) none ?_))))))))))))))
  refine c_loop2 (fun (i : Nat) (v : Value) => [(0, .pointer (some ⟨bs, 0, none⟩)), (3, v), (9, vU), (10, .int .i64 (s.us.length : Int)), (11, .int .i64 (i : Int))]) (fun (i : Nat) (v : Value) => St w (dom (SE bs vB vU s)) (rowE v 3 (encI .i64) (nI ((List.range i).filter (fun i => s.us.getD i false))) :: SE bs vB vU s)) (fun (i : Nat) (v : Value) => i ≤ s.us.length) (fun (i : Nat) (v : Value) => s.us.length - i) (0) (.slice none 0 0) (Nat.zero_le _) (Sn I (Sn I (Sn I (Sn I (Sn I (Sub.nil)))))) Ih ?_
  intro i v hi
  refine c_seq ?_
  have hfl : ((List.range i).filter (fun i => s.us.getD i false)).length ≤ i := by have := List.length_filter_le (fun i => s.us.getD i false) (List.range i); rwa [List.length_range] at this
  have hnl := nI_len ((List.range i).filter (fun i => s.us.getD i false))
  refine Cr I (Lq I (q_lss I I I) (Ns ?_))
  refine Pre.caseB 12 I (fun h1 => ?_) (fun h1 => ?_)
  · try simp only [B4] at h1
    obtain ⟨u, hu⟩ : ∃ u, s.us[i]? = some u := ⟨_, List.getElem?_eq_getElem (by omega)⟩
    have hsn := used_snoc hu
    refine c_true I (c_skip (Ks (c_block (Cs I (Lm I (Lq I (q_indexV i I U159 Z4 I (Hrd 3 I) I I (by omega)) (Lq I (q_loadV i 0 I G4 I I (Hrd 3 I) hu I) (Las I (Ak I (Cs I (Lm I (Nk ?_))))))))))))
    refine Pre.caseB 16 I (fun hun => ?_) (fun hun => ?_)
    · subst hun
      refine c_true I (Cr I (Lm I (Lm I (l_e I (e_buildSliceV (sz := 1) [.tmp 18] I I I I I U22 Z3 I zeroValue3 I ?_)))))
      intro b1
      refine pull1 (l_e I (e_append I I I U22 U22 info3 I I I I I (fun _ h => lit_rd (h.at 1 I) (encI .i64) [(i : Int)] I I) (by simp only [byt3, List.length_append, List.length_cons, List.length_nil]; omega) (by simp only [List.length_append, List.length_cons, List.length_nil]; omega) ?_))
      intro v2
      refine row_eq (hsn.symm) (pull1 (drop0 (Las I (l_nil (k_block (Kt (Cr I (Lq I (q_inc I I I (by omega)) (Lm I (l_nil ?_))))))))))
      exact k_round ((i + 1, v2)) (by dsimp only; omega) (by dsimp only; omega) (Sub.cons I (Sub.cons I (Sub.cons I (Sub.cons I (Sub.cons I (Sub.nil)))))) (fun _ h => h)
    · subst hun
      refine c_false I (c_skip (k_block (Kt (Cr I (Lq I (q_inc I I I (by omega)) (Lm I (l_nil ?_)))))))
      exact k_round ((i + 1, v)) (by dsimp only; omega) (by dsimp only; omega) (Sub.cons I (Sub.cons I (Sub.cons I (Sub.cons I (Sub.cons I (Sub.nil)))))) (fun _ h => by dsimp only; rw [hsn]; simpa using h)
  · try simp only [B4] at h1
    have hie : i = s.us.length := by omega
    subst hie
    refine c_false I (c_exit (k_then_exit (k_then_exit (k_block_exit (Kt (Cs I (Lm I (Ak I (c_ret (r_one I I ?_))))))))))
    exact fun _ h => ⟨v, rfl, trivial, h⟩
theorem sleft_spec {s : Sto} (hs : s.Ok) (bs : Nat) (vB vU : Value) : Con Tryz.prog 35 [.pointer (some ⟨bs, 0, none⟩)] (fun _ => True) (SE bs vB vU s) (fun _ : Unit => .int .i64 (s.left : Int)) (fun _ => True) (fun _ => SE bs vB vU s) := by
  intro w hE hH
  refine enter (n := 12) (vs := [.pointer (some ⟨bs, 0, none⟩)]) (St w (dom (SE bs vB vU s)) (SE bs vB vU s)) func35 I I I (St.init hH) ?_
  refine c_seq ?_
  have hl1 := hs.len
  have hl2 := hs.n256
  refine Cr I (Ak I (c_seq ?_))
  have hul : s.used.length ≤ s.us.length := by have := List.length_filter_le (fun i => s.us.getD i false) (List.range s.us.length); rwa [List.length_range] at this
  have hnl := nI_len s.used
  refine D4 [(0,O),(1,O),(2,O),(3,O),(4,O),(5,O),(6,V),(7,O),(8,O),(9,W)] [9] [(_,O),(_,O),(_,O),(_,O),(_,O),(_,O),(_,V),(_,O),(_,O),(_,W)] (fun w2 => (cellsE bs 161 [vB, vU]).at w2 ∧ RdV w2 vU encB s.us) I I I I St.drawn (fun _ h => ⟨h.at 0 rfl, h.rd 2 rfl⟩) (Dm I (Dc I (Dfa U161 I Z159 I (Dq I (q_loadC I isAgg159 I (fun _ h => h.1) I) (Dq I (q_lenV I U159 I (fun _ h => h.2)) (Dm I (d_e I (e_call_34 (sused_spec hs bs vB vU) I I I call34 I Tt ?_))))))))
  intro vu _
  refine Pre.fact (fun _ h => row_sl (h.at 0 I)) ?_
  rintro ⟨la, lc, rfl⟩
  refine d_held (fun _ h => ⟨h.at 1 rfl, h.rd 3 rfl⟩) (Dq I (q_len I U22 I) (Dq I (q_sub64 I I I (by omega)) (d_t I (e_q I I (q_assign I I) (d_nil (Kt (c_ret (drop0 (r_one I I ?_)))))))))
  exact fun _ h => ⟨(), congrArg (fun z => Ending.returned (Value.int .i64 z)) (by unfold Sto.left; rw [hnl]; omega), trivial, h⟩
theorem snew_yes {n : Nat} (h1 : 1 ≤ n) (h8 : n ≤ 256) : Con Tryz.prog 100 [.int .i64 (n : Int)] (fun _ => True) [] (fun r : Nat × Value × Value => .tuple #[.pointer (some ⟨r.1, 0, none⟩), .int .i64 0]) (fun _ => True) (fun r => SE r.1 r.2.1 r.2.2 ⟨List.replicate n Bk.zero, List.replicate n false⟩) := by
  intro w hE hH
  refine enter (n := 16) (vs := [.int .i64 (n : Int)]) (St w [] []) func100 I I I (St.init hH) ?_
  refine Cs I (Las I (Ak I (c_seq (Cs I (Lm I (Lq I (q_lss I I I) (Lm I (Sb 6 false I (decide_eq_false (by omega)) (Lm I (Lq I (q_gtr I I I) (Lq I (q_pick_f I I I) (Nk (Sb 9 false I (decide_eq_false (by omega)) (c_false I (c_skip (Ks (c_any (fun _ => True) I St.drawn (Aq 0 I Tt (q_move I I) (Aq 2 I Tt (q_move I I) ?_)))))))))))))))))))
  refine a_all2 1 3 (by kernel_rfl) I I I I ?_ ?_ 
  · refine e_makeSlice Bk.enc Bk.zero n I I I U158 info279 I I I I I I I (by simp only [byt279]; omega) (by omega) ?_
    intro vB
    refine Pre.fact (fun _ h => row_sl (h.at 0 I)) ?_
    rintro ⟨aB, cB, rfl⟩
    refine d_held Tt (a_all1 3 (by kernel_rfl) I I (e_makeSlice encB false n I I I U159 info4 I I I I I I I (by simp only [byt4]; omega) (by omega) ?_))
    intro vU
    refine Pre.fact (fun _ h => row_sl (h.at 0 I)) ?_
    rintro ⟨aU, cU, rfl⟩
    refine d_held Tt (Aq 4 I Tt (q_build ([.slice aB (List.replicate n Bk.zero).length cB, .slice aU (List.replicate n false).length cU]) I I (fun w => by kernel_rfl)) (a_all1 5 (by kernel_rfl) I I (e_box I I I I ?_)))
    intro bs
    refine cells_eq (show _ = [.slice aB (List.replicate n Bk.zero).length cB, .slice aU (List.replicate n false).length cU] from I) (d_held Tt (Aq 6 I Tt (q_assign I I) (Aq 7 I Tt (q_assign I I) (a_nil (by kernel_rfl) (Kt (c_ret (pull1 (pull2 (pull2 (r_many (rs := [.tmp 2, .tmp 3]) I I ?_))))))))))
    exact fun _ h => ⟨(bs, _, _), rfl, trivial, h⟩
  · refine e_makeSlice encB false n I I I U159 info4 I I I I I I I (by simp only [byt4]; omega) (by omega) ?_
    intro vU
    refine Pre.fact (fun _ h => row_sl (h.at 0 I)) ?_
    rintro ⟨aU, cU, rfl⟩
    refine d_held Tt (a_all1 1 (by kernel_rfl) I I (e_makeSlice Bk.enc Bk.zero n I I I U158 info279 I I I I I I I (by simp only [byt279]; omega) (by omega) ?_))
    intro vB
    refine Pre.fact (fun _ h => row_sl (h.at 0 I)) ?_
    rintro ⟨aB, cB, rfl⟩
    refine d_held Tt (Aq 4 I Tt (q_build ([.slice aB (List.replicate n Bk.zero).length cB, .slice aU (List.replicate n false).length cU]) I I (fun w => by kernel_rfl)) (a_all1 5 (by kernel_rfl) I I (e_box I I I I ?_)))
    intro bs
    refine cells_eq (show _ = [.slice aB (List.replicate n Bk.zero).length cB, .slice aU (List.replicate n false).length cU] from I) (d_held Tt (Aq 6 I Tt (q_assign I I) (Aq 7 I Tt (q_assign I I) (a_nil (by kernel_rfl) (Kt (c_ret (pull2 (pull2 (pull2 (r_many (rs := [.tmp 2, .tmp 3]) I I ?_))))))))))
    exact fun _ h => ⟨(bs, _, _), rfl, trivial, h⟩
end Go.Proofs.YtloldofjddbjoaaGreat
namespace Go.Proofs.YtloldofjddbjoaaGreat.Lt
open Go.Sep Go.RowKit Tryz
abbrev Wt := Int × Bool
structure La where
  pins : Int
  rd : List Int
  wr : Int
  q : List Wt
def ins (t : Int) (l : List Int) : List Int := l.takeWhile (fun x => decide (x < t)) ++ t :: l.dropWhile (fun x => decide (x < t))
def mayB (m : La) (t : Int) : Bool := decide (0 ≤ t ∧ m.wr ≠ t ∧ t ∉ m.rd ∧ t ∉ m.q.map Prod.fst)
def openB (m : La) (w : Bool) : Bool := decide (m.wr = -1) && (!w || decide (m.rd.length = 0))
def giveL (m : La) (t : Int) (w : Bool) : La := if w then { m with wr := t } else { m with rd := ins t m.rd }
def letQ : List Wt → La → List Int × La
  | [], m => ([], { m with q := [] })
  | w :: q, m => if openB m w.2 then (w.1 :: (letQ q (giveL m w.1 w.2)).1, (letQ q (giveL m w.1 w.2)).2) else ([], { m with q := w :: q })
def letL (m : La) : List Int × La := letQ m.q m
def tryB (m : La) (t : Int) (w : Bool) : Bool := mayB m t && decide (m.q.length = 0) && openB m w
def tryL (m : La) (t : Int) (w : Bool) : La := if tryB m t w then giveL m t w else m
def queueL (m : La) (t : Int) (w : Bool) : La := { m with q := m.q ++ [(t, w)] }
def takeL (m : La) (t : Int) (w : Bool) : La := if mayB m t then (if tryB m t w then giveL m t w else queueL m t w) else m
def leaveL (m : La) (t : Int) : La := { m with wr := if m.wr = t then -1 else m.wr, rd := m.rd.filter (fun x => decide (x ≠ t)), q := m.q.filter (fun x => decide (x.1 ≠ t)) }
def dropL (m : La) (t : Int) : List Int × La := if t < 0 then ([], m) else letL (leaveL m t)
def downL (m : La) (t : Int) : List Int × La := if t < 0 ∨ m.wr ≠ t then ([], m) else letL (giveL { m with wr := -1 } t false)
def idleB (m : La) : Bool := openB m true && decide (m.q.length = 0) && decide (m.pins = 0)
def unpinL (m : La) : La := if m.pins = 0 then m else { m with pins := m.pins - 1 }
def newL : La := ⟨0, [], -1, []⟩
def tasks (m : La) : List Int := (if 0 ≤ m.wr then [m.wr] else []) ++ (m.rd ++ m.q.map Prod.fst)
structure La.Ok0 (m : La) : Prop where
  nd : (tasks m).Nodup
  nn : ∀ x ∈ tasks m, 0 ≤ x
  srt : m.rd.Pairwise (· < ·)
  wr : -1 ≤ m.wr
  ex : 0 ≤ m.wr → m.rd = []
structure La.Ok (m : La) (n : Nat) : Prop extends La.Ok0 m where
  len : (tasks m).length ≤ n
  pn : 0 ≤ m.pins ∧ m.pins ≤ n
theorem La.Ok.mono {m : La} {n k : Nat} (h : m.Ok n) (hk : n ≤ k) : m.Ok k := ⟨h.toOk0, Nat.le_trans h.len hk, h.pn.1, by have := h.pn.2; omega⟩
theorem La.Ok.lens {m : La} {n : Nat} (h : m.Ok n) : m.rd.length ≤ n ∧ m.q.length ≤ n := by
  have := h.len
  simp only [tasks, List.length_append, List.length_map] at this
  omega
theorem La.Ok0.rn {m : La} (h : m.Ok0) : m.rd.Nodup := h.srt.imp (fun h => Int.ne_of_lt h)
theorem La.Ok0.qn {m : La} (h : m.Ok0) : (m.q.map Prod.fst).Nodup := by
  have := h.nd
  simp only [tasks, List.nodup_append] at this
  exact this.2.1.2.1
theorem La.Ok0.may {m : La} (h : m.Ok0) (t : Int) (ht : 0 ≤ t) : mayB m t = decide (t ∉ tasks m) := by
  have := h.wr
  unfold mayB tasks
  rw [decide_eq_decide]
  simp only [List.mem_append, not_or]
  by_cases hw : 0 ≤ m.wr
  · rw [if_pos hw]; simp only [List.mem_singleton]; exact ⟨fun x => ⟨fun e => x.2.1 e.symm, x.2.2⟩, fun x => ⟨ht, fun e => x.1 e.symm, x.2⟩⟩
  · rw [if_neg hw]; exact ⟨fun x => ⟨List.not_mem_nil, x.2.2⟩, fun x => ⟨ht, by omega, x.2⟩⟩
theorem new_ok : newL.Ok 0 := ⟨⟨by decide, by decide, List.Pairwise.nil, by decide, fun _ => rfl⟩, by decide, by decide⟩
theorem ins_perm (t : Int) (l : List Int) : (ins t l).Perm (t :: l) := by
  unfold ins
  refine List.perm_middle.trans ?_
  rw [List.takeWhile_append_dropWhile]
theorem ins_mem {t x : Int} {l : List Int} : x ∈ ins t l ↔ x = t ∨ x ∈ l := by rw [(ins_perm t l).mem_iff, List.mem_cons]
theorem take_of {l : List Int} {t : Int} : ∀ {i : Nat}, i ≤ l.length → (∀ k, k < i → l.getD k 0 < t) → (∀ (h : i < l.length), t ≤ l.getD i 0) → l.takeWhile (fun x => decide (x < t)) = l.take i ∧ l.dropWhile (fun x => decide (x < t)) = l.drop i := by
  induction l with
  | nil => intro i hi _ _; simp
  | cons x l ih =>
    intro i hi h1 h2
    cases i with
    | zero =>
      have := h2 (by simp)
      have hx : ¬ x < t := by simp at this; omega
      simp [hx]
    | succ i =>
      have h0 := h1 0 (by omega)
      simp at h0
      have := ih (i := i) (by simpa using hi) (fun k hk => by have := h1 (k + 1) (by omega); simpa using this) (fun h => by have := h2 (by simpa using h); simpa using this)
      simp [h0, this.1, this.2]
theorem ins_eq {l : List Int} {t : Int} {i : Nat} (hi : i ≤ l.length) (h1 : ∀ k, k < i → l.getD k 0 < t) (h2 : ∀ (h : i < l.length), t ≤ l.getD i 0) : ins t l = l.take i ++ t :: l.drop i := by
  obtain ⟨a, b⟩ := take_of hi h1 h2
  rw [ins, a, b]
theorem ins_cons {t x : Int} {l : List Int} : ins t (x :: l) = if x < t then x :: ins t l else t :: x :: l := by
  unfold ins
  by_cases h : x < t <;> simp [h]
theorem ins_sorted {t : Int} : ∀ {l : List Int}, l.Pairwise (· < ·) → t ∉ l → (ins t l).Pairwise (· < ·)
  | [], _, _ => by simp [ins]
  | x :: l, h, hn => by
    rw [ins_cons]
    have hx := List.pairwise_cons.1 h
    simp only [List.mem_cons, not_or] at hn
    split
    · rename_i hlt
      refine List.pairwise_cons.2 ⟨fun y hy => ?_, ins_sorted hx.2 hn.2⟩
      rcases ins_mem.1 hy with rfl | hy
      · exact hlt
      · exact hx.1 y hy
    · rename_i hlt
      have h3 : t < x := by omega
      refine List.pairwise_cons.2 ⟨fun y hy => ?_, h⟩
      rcases List.mem_cons.1 hy with rfl | hy
      · exact h3
      · exact Int.lt_trans h3 (hx.1 y hy)
theorem openB_iff {m : La} {w : Bool} : openB m w = true ↔ m.wr = -1 ∧ (w = true → m.rd = []) := by
  unfold openB
  cases w <;> simp [List.length_eq_zero_iff]
theorem give_tasks {m : La} {t : Int} {w : Bool} (ht : 0 ≤ t) (ho : openB m w = true) : (tasks (giveL m t w)).Perm (t :: tasks m) := by
  obtain ⟨hw, hr⟩ := openB_iff.1 ho
  unfold giveL
  cases w with
  | true => simp [tasks, hw, hr rfl, ht]
  | false =>
    simp only [tasks, hw, Bool.false_eq_true, if_false]
    simpa using (ins_perm t m.rd).append_right _
theorem give_ok0 {m : La} {t : Int} {w : Bool} (h : m.Ok0) (ht : 0 ≤ t) (hn : t ∉ tasks m) (ho : openB m w = true) : (giveL m t w).Ok0 := by
  have hp := give_tasks ht ho
  obtain ⟨hw, hr⟩ := openB_iff.1 ho
  refine ⟨hp.nodup_iff.2 (List.nodup_cons.2 ⟨hn, h.nd⟩), fun x hx => ?_, ?_, ?_, ?_⟩
  · rcases List.mem_cons.1 (hp.mem_iff.1 hx) with rfl | hx
    · exact ht
    · exact h.nn x hx
  · unfold giveL
    cases w with
    | true => exact h.srt
    | false => exact ins_sorted h.srt (fun hx => hn (by simp [tasks, hx]))
  · unfold giveL; cases w <;> simp <;> omega
  · unfold giveL; cases w with
    | true => exact fun _ => hr rfl
    | false => intro hc; simp at hc; omega
theorem give_pins (m : La) (t : Int) (w : Bool) : (giveL m t w).pins = m.pins := by unfold giveL; split <;> rfl
theorem give_q (m : La) (t : Int) (w : Bool) : (giveL m t w).q = m.q := by unfold giveL; split <;> rfl
theorem give_ok {m : La} {n : Nat} {t : Int} {w : Bool} (h : m.Ok n) (ht : 0 ≤ t) (hn : t ∉ tasks m) (ho : openB m w = true) : (giveL m t w).Ok (n + 1) :=
  ⟨give_ok0 h.toOk0 ht hn ho, by rw [(give_tasks ht ho).length_eq]; simpa using h.len, by rw [give_pins]; have := h.pn; omega⟩
theorem queue_tasks (m : La) (t : Int) (w : Bool) : (tasks (queueL m t w)).Perm (t :: tasks m) := by
  have : tasks (queueL m t w) = tasks m ++ [t] := by simp [tasks, queueL, List.append_assoc]; rfl
  rw [this]
  exact List.perm_append_singleton t (tasks m)
theorem queue_ok {m : La} {n : Nat} {t : Int} {w : Bool} (h : m.Ok n) (ht : 0 ≤ t) (hn : t ∉ tasks m) : (queueL m t w).Ok (n + 1) := by
  have hp := queue_tasks m t w
  refine ⟨⟨hp.nodup_iff.2 (List.nodup_cons.2 ⟨hn, h.nd⟩), fun x hx => ?_, h.srt, h.wr, h.ex⟩, by rw [hp.length_eq]; simpa using h.len, h.pn.1, by have := h.pn.2; show m.pins ≤ _; omega⟩
  rcases List.mem_cons.1 (hp.mem_iff.1 hx) with rfl | hx
  · exact ht
  · exact h.nn x hx
theorem take_ok {m : La} {n : Nat} (h : m.Ok n) (t : Int) (w : Bool) : (takeL m t w).Ok (n + 1) := by
  unfold takeL
  split
  · rename_i hm
    have ht : 0 ≤ t := by unfold mayB at hm; simp at hm; exact hm.1
    have hn : t ∉ tasks m := by rw [h.may t ht] at hm; simpa using hm
    split
    · rename_i ho
      unfold tryB at ho
      simp only [Bool.and_eq_true] at ho
      exact give_ok h ht hn ho.2
    · exact queue_ok h ht hn
  · exact h.mono (by omega)
theorem letQ_q (q : List Wt) : ∀ (m : La) (x : List Wt), letQ q { m with q := x } = letQ q m := by
  induction q with
  | nil => intro m x; rfl
  | cons w q ih =>
    intro m x
    have e : giveL { m with q := x } w.1 w.2 = { giveL m w.1 w.2 with q := x } := by unfold giveL; split <;> rfl
    have o : openB { m with q := x } w.2 = openB m w.2 := rfl
    simp only [letQ, o, e, ih]
theorem tasks_cons (m : La) (w : Wt) (q : List Wt) : (tasks { m with q := w :: q }).Perm (w.1 :: tasks { m with q := q }) := by
  simp only [tasks, List.map_cons]
  rw [← List.append_assoc, ← List.append_assoc]
  exact List.perm_middle
theorem ok_let {m : La} {w : Wt} {q : List Wt} (h : La.Ok0 { m with q := w :: q }) (ho : openB m w.2 = true) : La.Ok0 { giveL m w.1 w.2 with q := q } ∧ (tasks { giveL m w.1 w.2 with q := q }).Perm (tasks { m with q := w :: q }) := by
  have hp := tasks_cons m w q
  have hnd := List.nodup_cons.1 (hp.nodup_iff.1 h.nd)
  have ht : 0 ≤ w.1 := h.nn _ (hp.mem_iff.2 (List.mem_cons_self ..))
  have h0 : La.Ok0 { m with q := q } := ⟨hnd.2, fun x hx => h.nn x (hp.mem_iff.2 (List.mem_cons_of_mem _ hx)), h.srt, h.wr, h.ex⟩
  have e : giveL { m with q := q } w.1 w.2 = { giveL m w.1 w.2 with q := q } := by unfold giveL; split <;> rfl
  have ho' : openB { m with q := q } w.2 = true := ho
  have h1 := give_ok0 h0 ht hnd.1 ho'
  have h2 := give_tasks ht ho'
  rw [e] at h1 h2
  exact ⟨h1, h2.trans hp.symm⟩
theorem letQ_pins (q : List Wt) : ∀ m : La, (letQ q m).2.pins = m.pins := by
  induction q with
  | nil => intro m; rfl
  | cons w q ih => intro m; simp only [letQ]; split <;> simp [ih, give_pins]
theorem letQ_ok (q : List Wt) : ∀ m : La, La.Ok0 { m with q := q } → (letQ q m).2.Ok0 ∧ (tasks (letQ q m).2).Perm (tasks { m with q := q }) := by
  induction q with
  | nil => intro m h; exact ⟨h, .refl _⟩
  | cons w q ih =>
    intro m h
    simp only [letQ]
    split
    · rename_i ho
      obtain ⟨h1, h2⟩ := ok_let h ho
      obtain ⟨h3, h4⟩ := ih (giveL m w.1 w.2) h1
      exact ⟨h3, h4.trans h2⟩
    · exact ⟨h, .refl _⟩
def Stable (m : La) : Prop := ∀ w q, m.q = w :: q → openB m w.2 = false
theorem letQ_stable (q : List Wt) : ∀ m : La, Stable (letQ q m).2 := by
  induction q with
  | nil => intro m w q h; cases h
  | cons w q ih =>
    intro m
    simp only [letQ]
    split
    · exact ih _
    · rename_i ho
      intro w' q' h
      cases h
      have : openB m w.2 = false := by simpa using ho
      exact this
theorem let_ok {m : La} {n : Nat} (h : m.Ok n) : (letL m).2.Ok n := by
  obtain ⟨h1, h2⟩ := letQ_ok m.q m h.toOk0
  exact ⟨h1, by unfold letL; rw [h2.length_eq]; exact h.len, by unfold letL; rw [letQ_pins]; exact h.pn⟩
theorem leave_tasks {m : La} (h : m.Ok0) {t : Int} (ht : 0 ≤ t) : tasks (leaveL m t) = (tasks m).filter (fun x => decide (x ≠ t)) := by
  have := h.wr
  have hm : ∀ q : List Wt, (q.filter (fun x => decide (x.1 ≠ t))).map Prod.fst = (q.map Prod.fst).filter (fun x => decide (x ≠ t)) := fun q => by
    rw [List.filter_map]; rfl
  have e1 : (if 0 ≤ (leaveL m t).wr then [(leaveL m t).wr] else []) = (if 0 ≤ m.wr then [m.wr] else []).filter (fun x => decide (x ≠ t)) := by
    by_cases hw : m.wr = t
    · have : (leaveL m t).wr = -1 := by simp [leaveL, hw]
      rw [this]; subst hw; simp [ht]
    · have : (leaveL m t).wr = m.wr := by simp [leaveL, hw]
      rw [this]
      by_cases h0 : 0 ≤ m.wr
      · simp [h0, hw]
      · simp [h0]
  show (if 0 ≤ (leaveL m t).wr then [(leaveL m t).wr] else []) ++ _ = _
  rw [e1]
  simp only [tasks, leaveL, List.filter_append, hm]
theorem leave_ok {m : La} {n : Nat} (h : m.Ok n) {t : Int} (ht : 0 ≤ t) : (leaveL m t).Ok n := by
  have hp := leave_tasks h.toOk0 ht
  have hs : (tasks (leaveL m t)).Sublist (tasks m) := hp ▸ List.filter_sublist
  refine ⟨⟨h.nd.sublist hs, fun x hx => h.nn x (hs.subset hx), h.srt.sublist List.filter_sublist, ?_, ?_⟩, Nat.le_trans hs.length_le h.len, h.pn⟩
  · have := h.wr; show -1 ≤ (if m.wr = t then -1 else m.wr); split <;> omega
  · intro hw
    have hw' : 0 ≤ m.wr := by
      have : 0 ≤ (if m.wr = t then -1 else m.wr) := hw
      split at this <;> omega
    show m.rd.filter _ = []
    rw [h.ex hw']; rfl
theorem drop_ok {m : La} {n : Nat} (h : m.Ok n) (t : Int) : (dropL m t).2.Ok n := by
  unfold dropL
  split
  · exact h
  · exact let_ok (leave_ok h (by omega))
theorem let_stop {m : La} (h : m.q = [] ∨ ∃ w q, m.q = w :: q ∧ openB m w.2 = false) : letL m = ([], m) := by
  obtain ⟨p, r, x, q⟩ := m
  rcases h with h | ⟨w, q', h, ho⟩
  · have h' : q = [] := h
    subst h'; rfl
  · have h' : q = w :: q' := h
    subst h'
    simp only [letL, letQ, ho]
    rfl
theorem give_with (m : La) (t : Int) (w : Bool) (q : List Wt) : giveL { m with q := q } t w = { giveL m t w with q := q } := by unfold giveL; split <;> rfl
theorem let_go {m : La} {w : Wt} {q : List Wt} (h : m.q = w :: q) (ho : openB m w.2 = true) : letL m = (w.1 :: (letL (giveL { m with q := q } w.1 w.2)).1, (letL (giveL { m with q := q } w.1 w.2)).2) := by
  rw [give_with]
  have e := letQ_q q (giveL m w.1 w.2) q
  simp only [letL, h, letQ, ho, if_true]
  rw [e]
theorem ok_go {m : La} {n : Nat} {w : Wt} {q : List Wt} (h : m.Ok n) (hq : m.q = w :: q) (ho : openB m w.2 = true) : (giveL { m with q := q } w.1 w.2).Ok n := by
  have e : { m with q := w :: q } = m := by rw [← hq]
  have h0 : La.Ok0 { m with q := w :: q } := by rw [e]; exact h.toOk0
  obtain ⟨h1, h2⟩ := ok_let h0 ho
  rw [give_with]
  refine ⟨h1, by rw [h2.length_eq, e]; exact h.len, ?_⟩
  show 0 ≤ (giveL m w.1 w.2).pins ∧ (giveL m w.1 w.2).pins ≤ n
  rw [give_pins]; exact h.pn
theorem filter_at {α : Type} {f : α → Int} {t : Int} : ∀ {l : List α} {k : Nat} {y : α}, (l.map f).Nodup → l[k]? = some y → f y = t → l.filter (fun x => decide (f x ≠ t)) = l.eraseIdx k
  | [], k, y, hn, hk, hy => by simp at hk
  | x :: l, 0, y, hn, hk, hy => by
    simp at hk; subst hk
    have hx := (List.nodup_cons.1 hn).1
    rw [List.filter_cons_of_neg (by simp [hy])]
    simp only [List.eraseIdx_zero, List.tail_cons]
    exact List.filter_eq_self.2 (fun z hz => by simp; rintro rfl; exact hx (hy ▸ List.mem_map_of_mem hz))
  | x :: l, k + 1, y, hn, hk, hy => by
    have hk' : l[k]? = some y := by simpa using hk
    have hx := List.nodup_cons.1 hn
    have hne : f x ≠ t := fun e => hx.1 (by rw [e, ← hy]; exact List.mem_map_of_mem (List.mem_of_getElem? hk'))
    rw [List.filter_cons_of_pos (by simpa using hne), List.eraseIdx_cons_succ, filter_at hx.2 hk' hy]
theorem filter_no {α : Type} {f : α → Int} {t : Int} {l : List α} (h : t ∉ l.map f) : l.filter (fun x => decide (f x ≠ t)) = l :=
  List.filter_eq_self.2 (fun z hz => by simp; rintro rfl; exact h (List.mem_map_of_mem hz))
def encW : Enc Wt := ⟨2, fun w => [.int .i64 w.1, .bool w.2], fun _ => rfl, fun a u h => by simp at h; rcases h with rfl | rfl <;> rfl, by decide⟩
theorem take_not {l : List Int} {x y : Int} {k : Nat} (h : x ∉ l.take k) (hy : l[k]? = some y) (hn : ¬ x = y) : x ∉ l.take (k + 1) := by
  rw [List.take_add_one, hy]; simp; exact ⟨h, hn⟩
theorem take_notW {l : List Wt} {x : Int} {y : Wt} {k : Nat} (h : x ∉ (l.take k).map Prod.fst) (hy : l[k]? = some y) (hn : ¬ y.1 = x) : x ∉ (l.take (k + 1)).map Prod.fst := by
  rw [List.take_add_one, hy, List.map_append, List.mem_append, not_or]; exact ⟨h, by simp; exact fun e => hn e.symm⟩
def At (l : List Int) (x z : Int) : Prop := (z = -1 ∧ x ∉ l) ∨ ∃ k : Nat, z = (k : Int) ∧ l[k]? = some x
def AtW (l : List Wt) (x z : Int) : Prop := (z = -1 ∧ x ∉ l.map Prod.fst) ∨ ∃ (k : Nat) (y : Wt), z = (k : Int) ∧ l[k]? = some y ∧ y.1 = x
theorem At.iff {l : List Int} {x z : Int} (h : At l x z) : decide (0 ≤ z) = decide (x ∈ l) := by
  rcases h with ⟨rfl, h⟩ | ⟨k, rfl, h⟩
  · simp [h]
  · have := List.mem_of_getElem? h; simp [this]
theorem AtW.iff {l : List Wt} {x z : Int} (h : AtW l x z) : decide (z < 0) = decide (x ∉ l.map Prod.fst) := by
  rcases h with ⟨rfl, h⟩ | ⟨k, y, rfl, h, e⟩
  · simp [h]
  · have := List.mem_map_of_mem (f := Prod.fst) (List.mem_of_getElem? h)
    rw [e] at this
    rw [decide_eq_decide]
    exact ⟨fun hh => by omega, fun hh => absurd this hh⟩
theorem nan1_spec (x : Int) : Con Tryz.prog 303 [.int .i64 x] (fun _ => True) [] (fun _ : Unit => .bool false) (fun _ => True) (fun _ => []) := by
  intro w hE hH
  refine enter (n := 6) (vs := [.int .i64 x]) (St w [] []) func303 I I I (St.init hH) ?_
  refine Cs I (Ak I (Cs I (Lm I (Lm I (Lq I (q_neq I I I) (Ak I (c_ret (r_one I I ?_))))))))
  exact fun _ h => ⟨(), congrArg (fun z => Ending.returned (Value.bool z)) (by simp), trivial, h⟩
theorem nan2_spec (x : Int) : Con Tryz.prog 311 [.int .i64 x] (fun _ => True) [] (fun _ : Unit => .bool false) (fun _ => True) (fun _ => []) := by
  intro w hE hH
  refine enter (n := 6) (vs := [.int .i64 x]) (St w [] []) func311 I I I (St.init hH) ?_
  refine Cs I (Ak I (Cs I (Lm I (Lm I (Lq I (q_neq I I I) (Ak I (c_ret (r_one I I ?_))))))))
  exact fun _ h => ⟨(), congrArg (fun z => Ending.returned (Value.bool z)) (by simp), trivial, h⟩
theorem less_spec (x y : Int) : Con Tryz.prog 302 [.int .i64 x, .int .i64 y] (fun _ => True) [] (fun _ : Unit => .bool (decide (x < y))) (fun _ => True) (fun _ => []) := by
  intro w hE hH
  refine enter (n := 17) (vs := [.int .i64 x, .int .i64 y]) (St w [] []) func302 I I I (St.init hH) ?_
  refine Cs I (Ak I (Cs I (Lm I (l_e I (e_call_00 (nan2_spec x) I I I call311 I Tt ?_)))))
  intro _ _
  refine Lm I (Lx I (Lx I (Lx I (Lq I (q_pick_f I I I) (Lm I (Lm I (Lm I (Lq I (q_lss I I I) (Lq I (q_pick_f I I I) (Ak I (c_ret (r_one I I ?_))))))))))))
  exact fun _ h => ⟨(), rfl, trivial, h⟩
theorem index_spec {va : Value} (l : List Int) (x : Int) (hn : l.length ≤ 65536) : Con Tryz.prog 157 [va, .int .i64 x] (fun w => RdV w va (encI .i64) l) [] (fun z : Int => .int .i64 z) (fun z => At l x z) (fun _ => []) := by
  intro w hl hH
  refine enter (n := 19) (vs := [va, .int .i64 x]) (St w [] []) func157 I I I (St.init hH) ?_
  refine Cs I (Ak I (c_seq (Cs I (Lm I (Lq I (q_lenV I U22 I (fun _ h => hl.keep h (by simp [dom]))) (Lm I (Nk (c_block ?_))))))))
  refine c_loop1 (fun (k : Nat) => [(0, va), (1, .int .i64 x), (7, .int .i64 (l.length : Int)), (8, .int .i64 (k : Int))]) (fun (k : Nat) => St w [] []) (fun (k : Nat) => k ≤ l.length ∧ x ∉ l.take k) (fun (k : Nat) => l.length - k) (0) ⟨Nat.zero_le _, by simp⟩ (Sn I (Sn I (Sn I (Sn I (Sub.nil))))) Ih ?_
  intro k hp
  refine c_seq ?_
  obtain ⟨hk, hx⟩ := hp
  refine Cr I (Lq I (q_lss I I I) (Ns ?_))
  refine Pre.caseB 9 I (fun hlt => ?_) (fun hlt => ?_)
  · simp only [B4] at hlt
    obtain ⟨y, hy⟩ : ∃ y, l[k]? = some y := ⟨_, List.getElem?_eq_getElem (by omega)⟩
    refine c_true I (c_skip (Ks (c_block (Cs I (Lm I (Ak I (Cs I (Lm I (Lm I (Lm I (Lq I (q_indexV k I U22 Z3 I (fun _ h => hl.keep h (by simp [dom])) I I (by omega)) (Lq I (q_loadV k 0 I G3 I I (fun _ h => hl.keep h (by simp [dom])) hy I) (Lq I (q_eql I I I) (Nk ?_))))))))))))))
    refine Pre.caseB 16 I (fun he => ?_) (fun he => ?_)
    · simp only [B4] at he
      refine c_true I (Cs I (Lm I (Ak I (c_ret (k_block_ret (k_then_ret (k_then_ret (k_block_ret (k_then_ret (r_one I I ?_))))))))))
      exact fun _ h => ⟨(k : Int), rfl, .inr ⟨k, rfl, by rw [hy, he]⟩, h⟩
    · simp only [B4] at he
      refine c_false I (c_skip (k_block (Kt (Cr I (Lq I (q_inc I I I (by omega)) (Lm I (l_nil ?_)))))))
      exact k_round (k + 1) (by omega) ⟨by omega, take_not hx hy he⟩ (Sub.cons I (Sub.cons I (Sub.cons I (Sub.cons I (Sub.nil))))) (fun _ h => h)
  · simp only [B4] at hlt
    refine c_false I (c_exit (k_then_exit (k_then_exit (k_block_exit (Kt (Cs I (Ak I (c_ret (r_one I I ?_)))))))))
    exact fun _ h => ⟨-1, rfl, .inl ⟨rfl, by rw [List.take_of_length_le (by omega)] at hx; exact hx⟩, h⟩
theorem contains_spec {va : Value} (l : List Int) (x : Int) (hn : l.length ≤ 65536) : Con Tryz.prog 105 [va, .int .i64 x] (fun w => RdV w va (encI .i64) l) [] (fun _ : Unit => .bool (decide (x ∈ l))) (fun _ => True) (fun _ => []) := by
  intro w hl hH
  refine enter (n := 9) (vs := [va, .int .i64 x]) (St w [] []) func105 I I I (St.init hH) ?_
  refine Cs I (Ak I (Cs I (Lm I (Lm I (l_e I (e_call_00 (index_spec l x hn) I I I call157 I (fun _ h => hl.keep h (by simp)) ?_))))))
  intro z hz
  refine Lq I (q_geq I I I) (Ak I (c_ret (r_one I I ?_)))
  exact fun _ h => ⟨(), congrArg (fun z => Ending.returned (Value.bool z)) hz.iff, trivial, h⟩
theorem isof_spec (y : Wt) (b : Nat) (t : Int) : Con Tryz.prog 285 [.agg (encW.f y).toArray, .pointer (some ⟨b, 0, none⟩)] (fun _ => True) [cellsE b 3 [.int .i64 t]] (fun _ : Unit => .bool (decide (y.1 = t))) (fun _ => True) (fun _ => [cellsE b 3 [.int .i64 t]]) := by
  intro w hE hH
  refine enter (n := 8) (vs := [.agg (encW.f y).toArray, .pointer (some ⟨b, 0, none⟩)]) (St w [b] [cellsE b 3 [.int .i64 t]]) func285 I I I (St.init hH) ?_
  refine Cs I (l_e I (e_box I I I I ?_))
  intro b1
  refine Ak I (Cs I (Lfa U241 I Z3 I (Lo G3 0 I (Lo G3 1 I (Lq I (q_eql I I I) (Ak I (c_ret (r_one I I ?_))))))))
  exact fun _ h => ⟨(), rfl, trivial, h.drop⟩
theorem indexf_spec {va : Value} (l : List Wt) (b : Nat) (hb : blk va ≠ b ∨ l = []) (t : Int) (hn : l.length ≤ 65536) : Con Tryz.prog 188 [va, .func (.func 285) #[] #[.pointer (some ⟨b, 0, none⟩)]] (fun w => RdV w va encW l) [cellsE b 3 [.int .i64 t]] (fun z : Int => .int .i64 z) (fun z => AtW l t z) (fun _ => [cellsE b 3 [.int .i64 t]]) := by
  intro w hl hH
  refine enter (n := 19) (vs := [va, .func (.func 285) #[] #[.pointer (some ⟨b, 0, none⟩)]]) (St w [b] [cellsE b 3 [.int .i64 t]]) func188 I I I (St.init hH) ?_
  refine Cs I (Ak I (c_seq (Cs I (Lm I (Lq I (q_lenV I U200 I (fun _ h => hl.keepE h (by simpa [dom, cellsE] using hb))) (Lm I (Nk (c_block ?_))))))))
  refine c_loop1 (fun (k : Nat) => [(0, va), (1, .func (.func 285) #[] #[.pointer (some ⟨b, 0, none⟩)]), (7, .int .i64 (l.length : Int)), (8, .int .i64 (k : Int))]) (fun (k : Nat) => St w [b] [cellsE b 3 [.int .i64 t]]) (fun (k : Nat) => k ≤ l.length ∧ t ∉ (l.take k).map Prod.fst) (fun (k : Nat) => l.length - k) (0) ⟨Nat.zero_le _, by simp⟩ (Sn I (Sn I (Sn I (Sn I (Sub.nil))))) Ih ?_
  intro k hp
  refine c_seq ?_
  obtain ⟨hk, hx⟩ := hp
  refine Cr I (Lq I (q_lss I I I) (Ns ?_))
  refine Pre.caseB 9 I (fun hlt => ?_) (fun hlt => ?_)
  · simp only [B4] at hlt
    obtain ⟨y, hy⟩ : ∃ y, l[k]? = some y := ⟨_, List.getElem?_eq_getElem (by omega)⟩
    refine c_true I (c_skip (Ks (c_block (Cs I (Lm I (Ak I (Cs I (Lm I (Lm I (Lm I (Lq I (q_indexV k I U200 Z241 I (fun _ h => hl.keepE h (by simpa [dom, cellsE] using hb)) I I (by omega)) (Lq I (q_loadVAgg k I isAgg241 Z241 I I (fun _ h => hl.keepE h (by simpa [dom, cellsE] using hb)) hy) (l_e I (e_callV (β := Unit) (X' := fun _ => St w _ [cellsE b 3 [.int .i64 t]]) (v := fun _ => .bool (decide (y.1 = t))) (p := fun _ => True) I I I I call285 I (fun w2 h => Con.frame (F := []) (isof_spec y b t) h trivial) ?_))))))))))))))
    intro _ _
    refine Nk ?_
    refine Pre.caseB 16 I (fun he => ?_) (fun he => ?_)
    · simp only [B4] at he
      refine c_true I (Cs I (Lm I (Ak I (c_ret (k_block_ret (k_then_ret (k_then_ret (k_block_ret (k_then_ret (r_one I I ?_))))))))))
      exact fun _ h => ⟨(k : Int), rfl, .inr ⟨k, y, rfl, hy, he⟩, h⟩
    · simp only [B4] at he
      refine c_false I (c_skip (k_block (Kt (Cr I (Lq I (q_inc I I I (by omega)) (Lm I (l_nil ?_)))))))
      exact k_round (k + 1) (by omega) ⟨by omega, take_notW hx hy he⟩ (Sub.cons I (Sub.cons I (Sub.cons I (Sub.cons I (Sub.nil))))) (fun _ h => h)
  · simp only [B4] at hlt
    refine c_false I (c_exit (k_then_exit (k_then_exit (k_block_exit (Kt (Cs I (Ak I (c_ret (r_one I I ?_)))))))))
    exact fun _ h => ⟨-1, rfl, .inl ⟨rfl, by rw [List.take_of_length_le (by omega)] at hx; exact hx⟩, h⟩
theorem gdI {l : List Int} {k : Nat} (h : k < l.length) : l[k]? = some (l.getD k 0) := by simp [List.getD_eq_getElem?_getD, h]
theorem le_mono {l : List Int} (hs : l.Pairwise (· < ·)) {i j : Nat} (hj : j < l.length) (hij : i ≤ j) : l.getD i 0 ≤ l.getD j 0 := by
  rcases Nat.lt_or_ge i j with h | h
  · have := List.pairwise_iff_getElem.1 hs i j (by omega) hj h
    simp only [List.getD_eq_getElem?_getD, List.getElem?_eq_getElem hj, List.getElem?_eq_getElem (show i < l.length by omega), Option.getD_some]
    omega
  · rw [show i = j by omega]; exact Int.le_refl _
theorem bsearch_spec {va : Value} (l : List Int) (x : Int) (hs : l.Pairwise (· < ·)) (hn : l.length ≤ 65536) : Con Tryz.prog 286 [va, .int .i64 x] (fun w => RdV w va (encI .i64) l) [] (fun z : Nat × Bool => .tuple #[.int .i64 (z.1 : Int), .bool z.2]) (fun z => z.1 ≤ l.length ∧ (∀ k, k < z.1 → l.getD k 0 < x) ∧ ∀ h : z.1 < l.length, x ≤ l.getD z.1 0) (fun _ => []) := by
  intro w hl hH
  refine enter (n := 54) (vs := [va, .int .i64 x]) (St w [] []) func286 I I I (St.init hH) ?_
  refine Cs I (Las I (Ak I (Cs I (Lm I (Lq I (q_lenV I U22 I (fun _ h => hl.keep h (by simp [dom]))) (Ak I (Cs I (Lm I (Las I (Ak I (c_seq (c_block ?_))))))))))))
  refine c_loop2 (fun (i : Nat) (j : Nat) => [(0, va), (1, .int .i64 x), (6, .int .i64 (l.length : Int)), (7, .int .i64 (i : Int)), (8, .int .i64 (j : Int))]) (fun (i : Nat) (j : Nat) => St w [] []) (fun (i : Nat) (j : Nat) => i ≤ j ∧ j ≤ l.length ∧ (∀ k, k < i → l.getD k 0 < x) ∧ ∀ k, j ≤ k → k < l.length → x ≤ l.getD k 0) (fun (i : Nat) (j : Nat) => j - i) (0) (l.length) ⟨Nat.zero_le _, Nat.le_refl _, fun k hk => absurd hk (Nat.not_lt_zero _), fun k h1 h2 => by omega⟩ (Sn I (Sn I (Sn I (Sn I (Sn I (Sub.nil)))))) Ih ?_
  intro i j hp
  refine c_seq (c_seq ?_)
  obtain ⟨hij, hj, hlo, hhi⟩ := hp
  refine Cr I (Lm I (Lm I (Lq I (q_lss I I I) (Nk ?_))))
  refine Pre.caseB 15 I (fun hlt => ?_) (fun hlt => ?_)
  · simp only [B4] at hlt
    obtain ⟨hm, hmd⟩ : ∃ hm : Nat, hm = (i + j) / 2 := ⟨_, rfl⟩
    have hf : ((i : Int) + (j : Int)).fdiv 2 = (hm : Int) := by rw [Int.fdiv_eq_ediv_of_nonneg _ (by omega)]; omega
    refine c_true I (c_skip (Kt (c_block (Cs I (Lm I (Lm I (Lq I (q_add64 I I I (by omega)) (Lq I (q_conv_in I U3 underlying270 I (wrapu64_in (by omega))) (Lq I (q_half hm I I I hf) (Lq I (q_conv_in I underlying270 U3 I (by first | rfl | (simp only [IntKind.wrap]; omega) | exact wrap64_in (by omega))) (Ak I (Cs I (Lm I (Lm I (Lq I (q_indexV hm I U22 Z3 I (fun _ h => hl.keep h (by simp [dom])) I I (by omega)) (Lq I (q_loadV hm 0 I G3 I I (fun _ h => hl.keep h (by simp [dom])) (gdI (by omega)) I) (Lm I (l_e I (e_call_00 (less_spec (l.getD hm 0) x) I I I call302 I Tt ?_)))))))))))))))))))
    intro _ _
    refine Nk ?_
    refine Pre.caseB 27 I (fun hc => ?_) (fun hc => ?_)
    · simp only [B4] at hc
      refine c_true I (Cr I (Lm I (Lq I (q_inc I I I (by omega)) (Las I (l_nil (k_block ?_))))))
      exact k_round ((hm + 1, j)) (by dsimp only; omega) ⟨by dsimp only; omega, hj, fun k hk => Int.lt_of_le_of_lt (le_mono hs (by omega) (show k ≤ hm by omega)) hc, hhi⟩ (Sub.cons I (Sub.cons I (Sub.cons I (Sub.cons I (Sub.cons I (Sub.nil)))))) (fun _ h => h)
    · simp only [B4] at hc
      refine c_false I (Cr I (Lm I (Las I (l_nil (k_block ?_)))))
      exact k_round ((i, hm)) (by dsimp only; omega) ⟨by dsimp only; omega, by dsimp only; omega, hlo, fun k h1 h2 => Int.le_trans (Int.not_lt.1 hc) (le_mono hs h2 h1)⟩ (Sub.cons I (Sub.cons I (Sub.cons I (Sub.cons I (Sub.cons I (Sub.nil)))))) (fun _ h => h)
  · simp only [B4] at hlt
    have hie : i = j := by omega
    subst hie
    refine c_false I (c_exit (k_then_exit (k_then_exit (k_block_exit (Kt (Cs I (Lm I (Lm I (Lm I (Lq I (q_lss I I I) (Lm I ?_)))))))))))
    refine Pre.caseB 35 I (fun hil => ?_) (fun hil => ?_)
    · simp only [B4] at hil
      refine Lm I (Lm I (Lq I (q_indexV i I U22 Z3 I (fun _ h => hl.keep h (by simp [dom])) I I (by omega)) (Lq I (q_loadV i 0 I G3 I I (fun _ h => hl.keep h (by simp [dom])) (gdI (by omega)) I) (Lm I (Lq I (q_eql I I I) (Lm I ?_))))))
      refine Pre.caseB 42 I (fun heq => ?_) (fun heq => ?_)
      · simp only [B4] at heq
        refine Lx I (Lx I (Lx I (Lx I (Lx I (Lx I (Lx I (Lx I (Lx I (Lq I (q_pick_t I I I) (Lq I (q_pick_t I I I) (Las I (Ak I (c_ret (r_many (rs := [.tmp 4, .tmp 5]) I I ?_))))))))))))))
        exact fun _ h => ⟨(i, true), rfl, ⟨hj, hlo, fun hh => hhi i (Nat.le_refl _) hh⟩, h⟩
      · simp only [B4] at heq
        refine Lm I (Lm I (Lq I (q_indexV i I U22 Z3 I (fun _ h => hl.keep h (by simp [dom])) I I (by omega)) (Lq I (q_loadV i 0 I G3 I I (fun _ h => hl.keep h (by simp [dom])) (gdI (by omega)) I) (l_e I (e_call_00 (nan1_spec _) I I I call303 I Tt ?_)))))
        intro _ _
        refine Lm I (Lx I (Lx I (Lq I (q_pick_f I I I) (Lq I (q_pick_f I I I) (Lq I (q_pick_t I I I) (Las I (Ak I (c_ret (r_many (rs := [.tmp 4, .tmp 5]) I I ?_)))))))))
        exact fun _ h => ⟨(i, false), rfl, ⟨hj, hlo, fun hh => hhi i (Nat.le_refl _) hh⟩, h⟩
    · simp only [B4] at hil
      refine Lx I (Lx I (Lx I (Lx I (Lx I (Lx I (Lx I (Lx I (Lx I (Lx I (Lx I (Lx I (Lx I (Lx I (Lx I (Lx I (Lx I (Lq I (q_pick_f I I I) (Las I (Ak I (c_ret (r_many (rs := [.tmp 4, .tmp 5]) I I ?_)))))))))))))))))))))
      exact fun _ h => ⟨(i, false), rfl, ⟨hj, hlo, fun hh => hhi i (Nat.le_refl _) hh⟩, h⟩
theorem clone_spec {va : Value} (l : List Int) (hn : l.length ≤ 65536) : Con Tryz.prog 107 [va] (fun w => RdV w va (encI .i64) l) [] (fun v : Value => v) (fun _ => True) (fun v => [rowE v 3 (encI .i64) l]) := by
  intro w hl hH
  obtain ⟨a, c, rfl⟩ := rd_sl hl
  refine enter (n := 8) (vs := [.slice a l.length c]) (St w [] []) func107 I I I (St.init hH) ?_
  refine Cs I (Ak I (c_seq (Cs I (Lm I (Lq I (q_eqsl I U22 I I) (Nk ?_))))))
  refine Pre.caseB 4 I (fun hn => ?_) (fun hn => ?_)
  · rw [Option.isNone_iff_eq_none] at hn
    subst hn
    have hl0 := rd_none hl
    subst hl0
    refine c_true I (Cs I (Ak I (c_ret (k_then_ret (row0 3 (encI .i64) none (r_one I I ?_))))))
    exact fun _ h => ⟨_, rfl, trivial, h⟩
  · refine c_false I (c_skip (Kt (Cs I (l_e I (e_buildSliceV (sz := 1) [] I I I I I U22 Z3 I zeroValue3 I ?_)))))
    intro b
    refine rowLit (encI .i64) [] I I (Lm I (l_e I (e_append I I I U22 U22 info3 I I I I I (fun _ h => hl.keep h (by simp)) (by simp only [byt3, List.length_append, List.length_cons, List.length_nil]; omega) (by simp only [List.length_append, List.length_cons, List.length_nil]; omega) ?_)))
    intro v
    refine Ak I (c_ret ?_)
    rw [List.nil_append]
    refine r_one I I ?_
    exact fun _ h => ⟨v, rfl, trivial, h⟩
theorem clonew_spec {va : Value} (l : List Wt) (hn : l.length ≤ 65536) : Con Tryz.prog 189 [va] (fun w => RdV w va encW l) [] (fun v : Value => v) (fun _ => True) (fun v => [rowE v 241 encW l]) := by
  intro w hl hH
  obtain ⟨a, c, rfl⟩ := rd_sl hl
  refine enter (n := 8) (vs := [.slice a l.length c]) (St w [] []) func189 I I I (St.init hH) ?_
  refine Cs I (Ak I (c_seq (Cs I (Lm I (Lq I (q_eqsl I U200 I I) (Nk ?_))))))
  refine Pre.caseB 4 I (fun hn => ?_) (fun hn => ?_)
  · rw [Option.isNone_iff_eq_none] at hn
    subst hn
    have hl0 := rd_none hl
    subst hl0
    refine c_true I (Cs I (Ak I (c_ret (k_then_ret (row0 241 encW none (r_one I I ?_))))))
    exact fun _ h => ⟨_, rfl, trivial, h⟩
  · refine c_false I (c_skip (Kt (Cs I (l_e I (e_buildSliceV (sz := 2) [] I I I I I U200 Z241 I zeroValue241 I ?_)))))
    intro b
    refine rowLit encW [] I I (Lm I (l_e I (e_append I I I U200 U200 info241 I I I I I (fun _ h => hl.keep h (by simp)) (by simp only [byt241, List.length_append, List.length_cons, List.length_nil]; omega) (by simp only [List.length_append, List.length_cons, List.length_nil]; omega) ?_)))
    intro v
    refine Ak I (c_ret ?_)
    rw [List.nil_append]
    refine r_one I I ?_
    exact fun _ h => ⟨v, rfl, trivial, h⟩
theorem ov_find : Extern.find Tryz.f304 = some (Extern.SlicesOverlaps.overlaps #[22, 22] #[4]) := by kernel_rfl
theorem ov_next : Extern.findNext Tryz.f304 = none := by kernel_rfl
theorem ov_body : Tryz.f304.body.isNone = true := by kernel_rfl
theorem ov_name : (Tryz.f304.name == "runtime.NumGoroutine") = false := by kernel_rfl
theorem st_ne {w0 w : World} {D : List Nat} {a b : Nat} {T U : TypeId} {cs us : List Value} {H : List Ent} {h : St w0 D (cellsE a T cs :: cellsE b U us :: H) w} : a ≠ b := by
  have := h.hp.nodup
  intro e
  subst e
  simp [Sep.dom, cellsE] at this
theorem drop_1 {n : Nat} {L : Env} {w0 : World} {D : List Nat} {a b : Ent} {F : Act → World → Prop} (k : Pre n L (St w0 D [a]) F) : Pre n L (St w0 D [a, b]) F := k.world _ (fun _ s => s.sublist (by simp))
theorem drop_2 {n : Nat} {L : Env} {w0 : World} {D : List Nat} {a b c : Ent} {F : Act → World → Prop} (k : Pre n L (St w0 D [a]) F) : Pre n L (St w0 D [a, b, c]) F := k.world _ (fun _ s => s.sublist (by simp))
theorem insert_spec {v : Value} (l : List Int) (i : Nat) (t : Int) (bt : Nat) (hi : i ≤ l.length) (hn : l.length ≤ 65536) : Con Tryz.prog 287 [v, .int .i64 (i : Int), .slice (some ⟨bt, 0, none⟩) 1 1] (fun _ => True) [rowE v 3 (encI .i64) l, cellsE bt 3 [.int .i64 t]] (fun v : Value => v) (fun _ => True) (fun v => [rowE v 3 (encI .i64) (l.take i ++ t :: l.drop i)]) := by
  intro w hE hH
  have hlen2 : (l.take i ++ t :: l.drop i).length = l.length + 1 := by simp; omega
  refine enter (n := 95) (vs := [v, .int .i64 (i : Int), .slice (some ⟨bt, 0, none⟩) 1 1]) (St w (dom [rowE v 3 (encI .i64) l, cellsE bt 3 [.int .i64 t]]) [rowE v 3 (encI .i64) l, cellsE bt 3 [.int .i64 t]]) func287 I I I (St.init hH) ?_
  refine Cs I (Ak I (Cs I (Lm I (Lm I (Lq I (q_sliceVL i I U22 Z3 I (Hrd 0 I) I I (by omega)) (Nk (Cs I (Lm I (Lq I (q_len I U22 I) (Ak I (c_seq (Cs I (Lm I (Lq I (q_eql I I I) (Nk (Sb 16 false I (I) (c_false I (c_skip (Kt (Cs I (Lm I (Lq I (q_lenV I U22 I (Hrd 0 I)) (Ak I ?_)))))))))))))))))))))))
  refine c_seq (Cs I (Lm I (Lm I (Lq I (q_eql I I I) (Nk ?_)))))
  refine Pre.caseB 22 I (fun hn => ?_) (fun hn => ?_)
  · simp only [B4] at hn
    have hi2 : i = l.length := by omega
    refine c_true I (Cs I (Lm I (Lm I (l_e I (e_append I I I U22 U22 info3 I I I I I (fun _ h => lit_rd (h.at 1 I) (encI .i64) [t] I I) (by simp only [byt3, List.length_append, List.length_cons, List.length_nil]; omega) (by simp only [List.length_append, List.length_cons, List.length_nil]; omega) ?_)))))
    intro v2
    refine Ak I (c_ret (k_then_ret (row_eq (l' := l.take i ++ t :: l.drop i) (by subst hi2; simp) (pull1 (drop0 (r_one I I ?_))))))
    exact fun _ h => ⟨v2, rfl, trivial, h⟩
  · simp only [B4] at hn
    have hin : i < l.length := by omega
    refine row_letters (by omega) (fun b0 cap pre post hv hcap hpost => ?_)
    subst hv
    refine c_false I (c_skip (Ks (Cs I (Lm I (Lm I (Lq I (q_add64 I I I (by omega)) (Lm I (Lq I (q_cap I U22 I) (Lq I (q_gtr I I I) (Nk ?_))))))))))
    refine Pre.caseB 31 I (fun hroom => ?_) (fun hroom => ?_)
    · simp only [B4] at hroom
      have hp0 : post.length = cap - l.length := by rw [hpost]; exact Nat.mul_one _
      have hl0 := (encI .i64).flat_len l
      have hsz : (encI .i64).sz = 1 := rfl
      rw [hsz, Nat.mul_one] at hl0
      have hRD : ∀ (w2 w3 : World) (D : List Nat) (H : List Ent), St w3 D H w2 → (cellsE b0 3 (pre ++ (encI .i64).flat l ++ post)) ∈ H → RdV w2 (.slice (some ⟨b0, pre.length, none⟩) l.length cap) (encI .i64) l := fun w2 w3 D H h hm => cellsE_rd (h.hp.holds _ hm) _ l pre.length cap pre post rfl rfl hcap
      refine c_true I (Cs I (Lm I (Lm I (Lq I (q_sliceH i I U22 Z3 I I I (by omega)) (Lm I (Lm I (Lq I (q_add64 I I I (by omega)) (Lm I (Lq I (q_sub64 I I I (by omega)) (Sv' 39 (.int .i64 ((l.length + 1 - i : Nat) : Int)) I (by congr 1; omega) (l_e I ?_)))))))))))
      refine e_appendMake (E := encI .i64) (l := l.take i) (m := l.length + 1 - i) (a0 := (0 : Int)) I I I U22 U3 info3 I I I I I ?_ ?_ ?_ ?_ ?_
      · intro w2 h
        have h1 := vsl_rd (hRD _ _ _ _ h (List.mem_cons_self ..)) (lo := 0) (hi := i) (Nat.zero_le _) (by omega)
        have hsl : vsl (.slice (some ⟨b0, pre.length, none⟩) l.length cap) (encI .i64).sz 0 i = .slice (some ⟨b0, pre.length, none⟩) i cap := by simp [vsl, add_none]
        rw [hsl] at h1
        simpa using h1
      · show cap < (l.take i).length + (l.length + 1 - i)
        rw [List.length_take]; omega
      · rw [List.length_take]; simp only [byt3]; omega
      · rw [List.length_take]; omega
      intro v2
      refine Ak I (Cs I (Lm I (Lm I ?_)))
      have hl2 : (l.take i ++ List.replicate (l.length + 1 - i) (0 : Int)).length = l.length + 1 := by simp; omega
      refine row_letters (by omega) (fun b2 cap2 pre2 post2 hv2 hcap2 hpost2 => ?_)
      subst hv2
      rw [hl2] at hcap2 hpost2
      rw [hl2]
      have hp2 : post2.length = cap2 - (l.length + 1) := by rw [hpost2]; exact Nat.mul_one _
      have hA : (pre2 ++ (encI .i64).flat (l.take i)).length = pre2.length + i := by rw [List.length_append, Enc.flat_len, List.length_take, hsz]; omega
      have hcl : (pre2 ++ (encI .i64).flat (l.take i ++ List.replicate (l.length + 1 - i) (0 : Int)) ++ post2).length = pre2.length + (l.length + 1) + post2.length := by rw [List.length_append, List.length_append, Enc.flat_len, hl2, hsz]; omega
      refine Lq I (q_sliceL i I U22 Z3 I I I (by omega)) (Lm I (Sv' 43 (.slice (some ⟨b2, pre2.length + i, none⟩) (l.length + 1 - i) (cap2 - i)) I (by rw [if_neg (show ¬ cap2 = i by omega), Nat.mul_one]) (l_e I (e_copyW (E := encI .i64) (sc' := 1) (m := [t]) 1 I I I U22 Z3 I I (by omega) (fun _ h => lit_rd (h.at 2 I) (encI .i64) [t] I I) (by rw [hcl, hsz]; omega) (Ns (D4 [(0,O),(1,O),(2,O),(3,O),(4,O),(5,O),(6,O),(7,O),(8,W)] [8] [(_,O),(_,O),(_,O),(_,O),(_,O),(_,O),(_,O),(_,O),(_,W)] _ I I I I St.drawn Ih (Dm I (Dm I (Dm I (Dq I (q_inc I I I (by omega)) (Dq I (q_sliceL (i + 1) I U22 Z3 I I I (by omega)) (Dm I (Dm I (Dq I (q_sliceL i I U22 Z3 I I I (by omega)) (Sv' 50 (.slice (some ⟨b2, pre2.length + (i + 1), none⟩) (l.length + 1 - (i + 1)) (cap2 - (i + 1))) I (by rw [if_neg (show ¬ cap2 = i + 1 by omega), Nat.mul_one]) (Sv' 53 (.slice (some ⟨b0, pre.length + i, none⟩) (l.length - i) (cap - i)) I (by rw [if_neg (show ¬ cap = i by omega), Nat.mul_one]) (d_t I ?_)))))))))))))))))
      refine e_copyW (E := encI .i64) (sc' := cap - i) (m := l.drop i) (l.length - i) I I I U22 Z3 I I (by omega) (fun w2 h => ?_) (by rw [splice_len, hcl, hsz]; omega) ?_
      · have h1 := vsl_rd (hRD _ _ _ _ h (List.mem_cons_of_mem _ (List.mem_cons_self ..))) (lo := i) (hi := l.length) (by omega) (Nat.le_refl _)
        have hsl : vsl (.slice (some ⟨b0, pre.length, none⟩) l.length cap) (encI .i64).sz i l.length = .slice (some ⟨b0, pre.length + i, none⟩) (l.length - i) (cap - i) := by simp [vsl, add_none, show ¬ cap = i by omega, hsz]
        rw [hsl] at h1
        simpa using h1
      refine d_nil (Kt (Cs I (Lm I (Ak I (c_ret (k_then_ret ?_))))))
      refine row_shut (E := encI .i64) (len := l.length + 1) (cap := cap2) (l.take i ++ t :: l.drop i) pre2 post2 ?_ hlen2 (by omega) (by omega) hpost2 ?_
      · rw [Enc.flat_append, ← List.append_assoc, ← hA]
        have hd := splice_down (pre2 ++ (encI .i64).flat (l.take i)) ((encI .i64).flat (List.replicate (l.length + 1 - i) 0)) post2 ((encI .i64).flat (l.drop i)) (.int .i64 t) (by rw [Enc.flat_len, Enc.flat_len, List.length_replicate, List.length_drop, hsz]; omega)
        rw [hA, Nat.add_assoc] at hd
        rw [hA]
        refine hd.trans ?_
        rw [Enc.flat_append, Enc.flat_cons, List.append_assoc pre2]; rfl
      refine drop_2 (r_one I I ?_)
      exact fun _ h => ⟨_, rfl, trivial, h⟩
    · simp only [B4] at hroom
      have hp0 : post.length = cap - l.length := by rw [hpost]; exact Nat.mul_one _
      have hl0 := (encI .i64).flat_len l
      have hsz : (encI .i64).sz = 1 := rfl
      rw [hsz, Nat.mul_one] at hl0
      have hcl : (pre ++ (encI .i64).flat l ++ post).length = pre.length + l.length + post.length := by rw [List.length_append, List.length_append, hl0]
      have hA : (pre ++ (encI .i64).flat (l.take i)).length = pre.length + i := by rw [List.length_append, Enc.flat_len, List.length_take, hsz]; omega
      refine c_false I (c_skip (Kt (Cs I (Lm I (Lm I (Lm I (Lq I (q_add64 I I I (by omega)) (Lq I (q_sliceH (l.length + 1) I U22 Z3 I I I (by omega)) (Ak I (c_seq (Cs I (Lm I (Lm I (Lm I (Lm I (Lq I (q_add64 I I I (by omega)) (Lq I (q_sliceL (i + 1) I U22 Z3 I I I (by omega)) (Pre.fact (fun _ h => st_ne (h := h)) ?_))))))))))))))))))
      intro hne
      refine l_e I (e_overlaps (t := 22) (r := 4) (e := 3) I I I func304 ov_body ov_name ov_next ov_find U22 Z3 I I (Hat 1 I) (Hat 0 I) (fun e => hne e.symm) (by intro e; rw [e] at hcl; simp at hcl; omega) (Lq I (q_not I I) (Nk (c_true I (c_seq (D4 [(0,O),(1,O),(2,O),(3,O),(4,O),(5,O),(6,O),(7,O),(8,W)] [8] [(_,O),(_,O),(_,O),(_,O),(_,O),(_,O),(_,O),(_,O),(_,W)] _ I I I I St.drawn Ih (Dm I (Dm I (Dm I (Dq I (q_inc I I I (by omega)) (Dq I (q_sliceL (i + 1) I U22 Z3 I I I (by omega)) (Dm I (Dm I (Dq I (q_sliceL i I U22 Z3 I I I (by omega)) (Sv' 73 (.slice (some ⟨b0, pre.length + (i + 1), none⟩) (l.length + 1 - (i + 1)) (cap - (i + 1))) I (by rw [if_neg (show ¬ cap = i + 1 by omega), Nat.mul_one]) (Sv' 76 (.slice (some ⟨b0, pre.length + i, none⟩) (l.length + 1 - i) (cap - i)) I (by rw [if_neg (show ¬ cap = i by omega), Nat.mul_one]) (d_t I ?_)))))))))))))))))
      refine e_copyW (E := encI .i64) (sc' := cap - i) (m := l.drop i) (l.length - i) I I I U22 Z3 I I (by omega) (fun w2 h => ?_) (by rw [hcl, hsz]; omega) ?_
      · have h1 := vsl_rd (cellsE_rd (h.at 0 rfl) _ l pre.length cap pre post rfl rfl hcap) (lo := i) (hi := l.length) (by omega) (Nat.le_refl _)
        have hsl : vsl (.slice (some ⟨b0, pre.length, none⟩) l.length cap) (encI .i64).sz i l.length = .slice (some ⟨b0, pre.length + i, none⟩) (l.length - i) (cap - i) := by simp [vsl, add_none, show ¬ cap = i by omega, hsz]
        rw [hsl] at h1
        simpa using h1
      refine d_nil (Kt (Cs I (Lm I (Lm I (Lq I (q_sliceL i I U22 Z3 I I I (by omega)) (Lm I (Sv' 80 (.slice (some ⟨b0, pre.length + i, none⟩) (l.length + 1 - i) (cap - i)) I (by rw [if_neg (show ¬ cap = i by omega), Nat.mul_one]) (l_e I (e_copyW (E := encI .i64) (sc' := 1) (m := [t]) 1 I I I U22 Z3 I I (by omega) (fun _ h => lit_rd (h.at 1 I) (encI .i64) [t] I I) (by rw [splice_len, hcl, hsz]; omega) (Nk (Cs I (Lm I (Ak I (c_ret (k_then_ret ?_)))))))))))))))
      refine row_shut (E := encI .i64) (len := l.length + 1) (cap := cap) (l.take i ++ t :: l.drop i) pre (post.drop 1) ?_ hlen2 (by omega) (by omega) (by rw [List.length_drop, hp0, hsz]; omega) ?_
      · have hu := splice_up (pre ++ (encI .i64).flat (l.take i)) ((encI .i64).flat (l.drop i)) post (.int .i64 t) (by intro e; rw [e] at hp0; simp at hp0; omega)
        rw [hA, Nat.add_assoc, List.append_assoc pre, ← Enc.flat_append, List.take_append_drop] at hu
        refine hu.trans ?_
        rw [Enc.flat_append, Enc.flat_cons, List.append_assoc pre]; rfl
      refine drop_1 (r_one I I ?_)
      exact fun _ h => ⟨_, rfl, trivial, h⟩
theorem delete_spec {v : Value} (l : List Int) (i : Nat) (hi : i < l.length) (hn : l.length ≤ 65536) : Con Tryz.prog 249 [v, .int .i64 (i : Int), .int .i64 ((i : Int) + 1)] (fun _ => True) [rowE v 3 (encI .i64) l] (fun v : Value => v) (fun _ => True) (fun v => [rowE v 3 (encI .i64) (l.eraseIdx i)]) := by
  intro w hE hH
  obtain ⟨bb, oo, cc, rfl⟩ := rd_open (rowE_rd (hH.holds _ (List.mem_cons_self ..))) (show 0 < l.length by omega)
  refine enter (n := 33) (vs := [(.slice (some ⟨bb, oo, none⟩) l.length cc), .int .i64 (i : Int), .int .i64 ((i : Int) + 1)]) (St w (dom [rowE (.slice (some ⟨bb, oo, none⟩) l.length cc) 3 (encI .i64) l]) [rowE (.slice (some ⟨bb, oo, none⟩) l.length cc) 3 (encI .i64) l]) func249 I I I (St.init hH) ?_
  refine c_seq (Pre.fact (fun _ h => (h.rd 0 I).cap) ?_)
  intro hcap
  refine Cr I (Ak I (Cs I (Lm I (Lm I (Lm I (Lm I (Lq I (q_lenV I U22 I (Hrd 0 I)) (Lq I (q_slice3 i (i + 1) l.length I U22 Z3 I (Hrd 0 I) I I I I I I (by omega) (by omega) (by omega)) (Ns (Cs I (Lm I (Lm I (Lq I (q_eql I I I) (Nk (Sb 16 false I (decide_eq_false (by omega)) (c_false I (c_skip (Kt (Cs I (Lm I (Lq I (q_lenV I U22 I (Hrd 0 I)) (Ak I (c_seq ?_)))))))))))))))))))))))
  refine D4 [(0,O),(1,O),(2,O),(3,O),(4,O),(5,O),(6,V),(7,O)] [] [(_,O),(_,O),(_,O),(_,O),(_,O),(_,O),(_,V),(_,O)] (fun _ => True) I I I I St.drawn Tt (Dm I (Dm I (Dq I (q_sliceH i I U22 Z3 I I I (by have : l.length ≤ cc := hcap; omega)) (Dm I (Dm I (Dq I (q_sliceL (i + 1) I U22 Z3 I I I (by omega)) (Sv' 22 (vsl (.slice (some ⟨bb, oo, none⟩) l.length cc) (encI .i64).sz 0 i) I (by simp [vsl, add_none]) (Sv' 25 (vsl (.slice (some ⟨bb, oo, none⟩) l.length cc) (encI .i64).sz (i + 1) l.length) rfl (by by_cases h9 : cc = i + 1 <;> simp [vsl, add_none, h9, encI, encW]) ?_))))))))
  have hcc : l.length ≤ vcap (.slice (some ⟨bb, oo, none⟩) l.length cc) := hcap
  refine d_e I (e_appendIn i I I I U22 U22 Z3 I I (fun _ h => vsl_rd (h.rd 0 I) (lo := i + 1) (hi := l.length) (by omega) (Nat.le_refl _)) (by simp only [List.length_drop, List.length_take]; omega) ?_)
  intro v2 hc2
  refine row_eq (l' := l.eraseIdx i) (by rw [List.take_length, List.eraseIdx_eq_take_drop_succ]) ?_
  have hl2 : (l.eraseIdx i).length = l.length - 1 := by rw [List.length_eraseIdx]; simp; omega
  refine d_held Tt (Das I (d_nil (Kt (Cs I (Lm I (Lm I (Lq I (q_lenV I U22 I (Hrd 0 I)) (Lm I (Lq I (q_sliceC (l.eraseIdx i).length l.length I U22 Z3 I (Hrd 0 I) I I I I (by omega) (by omega)) (l_e I (e_clearTail I I U22 info3 I I (by decide) I (by omega) (by omega) (Nk (Cs I (Lm I (Ak I (c_ret (r_one I I ?_)))))))))))))))))
  exact fun _ h => ⟨v2, rfl, trivial, h⟩
end Go.Proofs.YtloldofjddbjoaaGreat.Lt
