/- cache: Pin, Claim -/
import Derived.Test.YtpfbagkjhchojaaH
set_option linter.unusedVariables false
set_option linter.unusedSimpArgs false
namespace Go.Proofs.Ytpfbagkjhchojaa
open Go.Sep Go.RowKit

section
variable {P : Program} {n : Nat} {L : Env} {o : Oper} {Q : Exit → Act → World → Prop} {K : Act → World → Prop} {w0 : World} {D : List Nat}
/-- A call that takes a whole list of entries, others ahead of it. -/
theorem e_callH {β : Type} {v : β → Value} {p : β → Prop} {E : World → Prop} {HA : List Ent} {HB : β → List Ent} {f : FuncId} {xs : List Operand} {ts : Array TypeId} {d : Nat} {vs : List Value} (pre : List Ent) (s : Con P f vs E HA v p HB) (ho : o.op = .call ⟨.value (.func f), xs.toArray, ts⟩) (hd : o.dst = some d) (hn : d.blt n = true)
    (hc : ∀ us w, (callFunc f us).run P w = .ok (.enter f us) w) (hv : evs L xs = some vs) (hE : ∀ w, St w0 D (pre ++ HA) w → E w) (h : ∀ b, p b → Pre n ((d, v b) :: L) (St w0 D (pre ++ HB b)) K) : EOp P n L (St w0 D (pre ++ HA)) o Q K :=
  e_call ho hd hn hc hv (fun w x => (s.frame (F := pre) (x.perm List.perm_append_comm) (hE w x)).mono (fun e w' ⟨b, he, hp, h'⟩ => ⟨b, he, hp, h'.perm List.perm_append_comm⟩)) h
theorem perm_mid (pre HA F : List Ent) : (pre ++ (HA ++ F)).Perm (HA ++ (pre ++ F)) := by
  rw [← List.append_assoc, ← List.append_assoc]
  exact List.perm_append_comm.append_right F
/-- The same, others behind it. -/
theorem e_callHF {β : Type} {v : β → Value} {p : β → Prop} {E : World → Prop} {HA : List Ent} {HB : β → List Ent} {f : FuncId} {xs : List Operand} {ts : Array TypeId} {d : Nat} {vs : List Value} (pre F : List Ent) (s : Con P f vs E HA v p HB) (ho : o.op = .call ⟨.value (.func f), xs.toArray, ts⟩) (hd : o.dst = some d) (hn : d.blt n = true)
    (hc : ∀ us w, (callFunc f us).run P w = .ok (.enter f us) w) (hv : evs L xs = some vs) (hE : ∀ w, St w0 D (pre ++ (HA ++ F)) w → E w) (h : ∀ b, p b → Pre n ((d, v b) :: L) (St w0 D (pre ++ (HB b ++ F))) K) : EOp P n L (St w0 D (pre ++ (HA ++ F))) o Q K :=
  e_call ho hd hn hc hv (fun w x => (s.frame (F := pre ++ F) (x.perm (perm_mid pre HA F)) (hE w x)).mono (fun e w' ⟨b, he, hp, h'⟩ => ⟨b, he, hp, h'.perm (perm_mid pre (HB b) F).symm⟩)) h
end
theorem put_ok_same {M : Mo} {B : Nat} (h : M.Ok B) {i : Nat} {y y' : Vw} (hy : M.fr[i]? = some y) (hs : y'.st = y.st) (hb : y'.blk = y.blk) (ho : y'.own = y.own) (hp : 0 ≤ y'.pins ∧ y'.pins ≤ (B : Int)) (he : y'.es.length ≤ 1000) : (M.put i y').Ok B := by
  have hm := List.mem_of_getElem? hy
  refine put_ok h hy (by rw [hs]; exact h.st y hm) (by rw [hs, hb]; exact h.none' y hm) (by rw [hs, hb]; exact h.blk y hm) (by rw [hs, ho]; exact h.own y hm) (by rw [hs, ho]; exact h.own0 y hm) hp (fun h1 j z hj hz h2 e => ?_) (fun q _ h1 h2 => ⟨by rw [hs]; exact h1, by rw [hb]; exact h2⟩) he
  rw [hs] at h1
  exact hj (h.uni j i z y hz hy h2 h1 (by rw [e, hb]))
theorem Rel.new {S : CS} {M : Mo} (h : Rel S M) {k : Nat} {y y' : Vw} {f' : FC} {b : Int} (hy : M.fr[k]? = some y) (hf : ¬ (y.st = 1 ∨ y.st = 2)) (hn : M.find b = none) (hv : vw f' = y') (hb : f'.blk = b) (hs : f'.st = 1 ∨ f'.st = 2) : Rel { S with fl := S.fl.set k f', at' := mput b (k : Int) S.at' } (M.put k y') :=
  h.put hv _ (fun c => by
    rw [put_new hy hf hn (by rw [← hv]; exact hb) (by rw [← hv]; exact hs)]
    by_cases e : c = b
    · subst e; rw [if_pos rfl, mget_put]; rfl
    · rw [if_neg e, mget_putT (fun e' => e e'.symm)]; exact h.at' c) (mput_keys b _ h.na)
theorem pin_no {M : Mo} {t b : Int} (h : (bkB b && M.mayW t b) = false) : M.pin t b = (0, M) := by unfold Mo.pin; rw [if_pos h]
theorem pin_at {M : Mo} {t b : Int} {i : Nat} {y : Vw} (h : (bkB b && M.mayW t b) = true) (hf : M.find b = some i) (hy : M.at' i = y) : M.pin t b = if y.st = 2 then (1, (M.put i { y with pins := y.pins + 1, ref := true }).leave t) else (2, { (M.put i { y with pins := y.pins + 1, ref := true }).leave t with loads := M.loads ++ [(t, b)] }) := by
  subst hy
  unfold Mo.pin; rw [if_neg (by rw [h]; decide), hf]; rfl
theorem pin_queue {M : Mo} {t b : Int} (h : (bkB b && M.mayW t b) = true) (hf : M.find b = none) (hk : M.takes t = none) : M.pin t b = (4, M.ask t b) := by unfold Mo.pin; rw [if_neg (by rw [h]; decide), hf]; simp only; rw [hk]
theorem pin_read {M : Mo} {t b : Int} {k : Nat} (h : (bkB b && M.mayW t b) = true) (hf : M.find b = none) (hk : M.takes t = some k) : M.pin t b = (3, (M.leave t).put k ⟨1, b, 0, 1, true, false, false, []⟩) := by unfold Mo.pin; rw [if_neg (by rw [h]; decide), hf]; simp only; rw [hk]
theorem claim_no {M : Mo} {t : Int} (h : M.mayW t (-1) = false) : M.claim t = (false, M) := by unfold Mo.claim; rw [if_pos h]
theorem claim_queue {M : Mo} {t : Int} (h : M.mayW t (-1) = true) (hk : M.takes t = none) : M.claim t = (false, M.ask t (-1)) := by unfold Mo.claim; rw [if_neg (by rw [h]; decide), hk]
theorem claim_some {M : Mo} {t : Int} {k : Nat} (h : M.mayW t (-1) = true) (hk : M.takes t = some k) : M.claim t = (true, (M.leave t).put k ⟨3, -1, t, 1, false, false, false, []⟩) := by unfold Mo.claim; rw [if_neg (by rw [h]; decide), hk]
/-- One more waits for a load. -/
theorem told_add {M : Mo} {t b : Int} (c : Int) : ((M.loads ++ [(t, b)]).filter (fun q => decide (q.2 = c))).map Prod.fst = if c = b then M.told c ++ [t] else M.told c := by
  rw [List.filter_append, List.map_append]
  unfold Mo.told
  by_cases e : c = b
  · subst e; rw [if_pos rfl]; simp
  · rw [if_neg e]; simp [List.filter_cons, Ne.symm e]
theorem Rel.wait {S : CS} {M : Mo} (h : Rel S M) (t b : Int) (sv : Sv) (l : List Int) (hl : l = M.told b ++ [t]) : Rel { S with ld := mput b (sv, l) S.ld } { M with loads := M.loads ++ [(t, b)] } := by
  refine ⟨h.fr, h.ln, h.hd, h.at', fun c => ?_, mput_keys b _ h.nd, h.na⟩
  · show ((M.loads ++ [(t, b)]).filter (fun q => decide (q.2 = c))).map Prod.fst = match mget c (mput b (sv, l) S.ld) with | some q => q.2 | none => []
    rw [told_add]
    by_cases e : c = b
    · subst e; rw [if_pos rfl, mget_put]; exact hl.symm
    · rw [if_neg e, mget_putT (fun e' => e e'.symm)]; exact h.ld c
theorem wn_claim (t : Int) : (wn (t, -1)) = ⟨t, -1, true⟩ := rfl
theorem wn_block {b : Int} (h : bkB b = true) (t : Int) : wn (t, b) = ⟨t, b, false⟩ := by
  unfold bkB at h
  simp only [Bool.and_eq_true, decide_eq_true_eq] at h
  unfold wn
  simp only [Wn.mk.injEq, true_and]
  exact decide_eq_false (by omega)

set_option maxRecDepth 100000 in
set_option maxHeartbeats 1000000 in
theorem pin_spec {bc : Nat} {S : CS} {M : Mo} {B : Nat} (hR : Rel S M) (hO : M.Ok B) (hB : B + 1 ≤ 60000) (t b : Int) (hb64 : i64 b) : Con Try.prog 12 [.pointer (some ⟨bc, 0, none⟩), .int .i64 t, .int .i64 b] (fun _ => True) (S.H bc) (fun S' : CS => .int .i64 (M.pin t b).1) (fun S' => Rel S' (M.pin t b).2 ∧ ∀ G, NIn G S.fl → NIn G S'.fl) (fun S' => S'.H bc) := by
  intro w hE hH
  refine enter (n := 84) (vs := [.pointer (some ⟨bc, 0, none⟩), .int .i64 t, .int .i64 b]) (St w (dom (S.H bc)) (cellsE bc 78 (S).cells :: rowE (S).vF 80 FC.enc (S).fl :: mapT (S).bA kI kI (S).at' :: mapT (S).bL kI vS (S).ld :: rowE (S).vL 83 Wn.enc (S).ln :: (S).rows)) Try.func12 rfl rfl rfl (St.init hH) ?_
  refine c_seq ?_
  refine c_region _ rfl ?_
  refine l_q rfl (q_assign rfl rfl) rfl rfl ?_
  refine l_nil ?_
  refine k_then ?_
  refine c_seq ?_
  refine c_region _ rfl ?_
  refine l_q rfl (q_move rfl rfl) rfl rfl ?_
  refine l_q rfl (q_move rfl rfl) rfl rfl ?_
  refine l_q rfl (q_build ((⟨t, b, false⟩ : Wn).c) rfl rfl (fun w => by kernel_rfl)) rfl rfl ?_
  refine l_e rfl ?_
  refine e_alloc rfl rfl rfl Try.zeroValue83 ?_
  intro bw
  refine cells_eq (show _ = (⟨0, 0, false⟩ : Wn).c from rfl) ?_
  refine l_e rfl ?_
  refine e_storeAgg rfl rfl Try.sizeOf83 rfl rfl rfl (Wn.one _) (by show 0 + 3 ≤ 3; decide) ?_
  refine cells_eq (show Sep.splice _ 0 ((⟨t, b, false⟩ : Wn)).c = ((⟨t, b, false⟩ : Wn)).c from Sep.splice_all rfl) ?_
  refine l_nil ?_
  refine k_then ?_
  refine c_seq ?_
  refine c_seq ?_
  refine c_region _ rfl ?_
  refine l_q rfl (q_move rfl rfl) rfl rfl ?_
  refine l_e rfl ?_
  refine e_call_00 (block_spec b) rfl rfl rfl Try.call36 rfl (fun _ _ => trivial) ?_
  intro _ _
  refine l_q rfl (q_not rfl rfl) rfl rfl ?_
  refine l_q rfl (q_move rfl rfl) rfl rfl ?_
  refine Pre.caseB 17 rfl (fun hb => ?_) (fun hb => ?_)
  · try simp only [Bool.not_eq_true', Bool.not_eq_false'] at hb
    have hu := pin_no (M := M) (t := t) (b := b) (by rw [hb]; rfl)
    refine l_not rfl rfl rfl ?_
    refine l_not rfl rfl rfl ?_
    refine l_not rfl rfl rfl ?_
    refine l_not rfl rfl rfl ?_
    refine l_q rfl (q_pick_t rfl rfl rfl) rfl rfl ?_
    refine l_nil ?_
    refine k_then ?_
    refine c_true rfl ?_
    refine c_seq ?_
    refine c_region _ rfl ?_
    refine l_q rfl (q_assign rfl rfl) rfl rfl ?_
    refine l_nil ?_
    refine k_then ?_
    refine c_ret ?_
    refine k_then_ret ?_
    refine drop0 ?_
    refine r_one rfl rfl ?_
    exact fun _ h => ⟨S, by rw [hu], ⟨by rw [hu]; exact hR, fun _ h => h⟩, h⟩
  · try simp only [Bool.not_eq_true', Bool.not_eq_false'] at hb
    have hwn := wn_block hb t
    refine l_q rfl (q_move rfl rfl) rfl rfl ?_
    refine l_q rfl (q_loadCAgg ((⟨t, b, false⟩ : Wn).c) rfl Try.isAgg83 Try.sizeOf83 rfl (fun _ h => h.at 0 rfl) (rfl) (rfl)) rfl rfl ?_
    refine Pre.setV (t := 19) (c := .agg (wn (t, b)).c.toArray) rfl (by rw [hwn]) ?_
    refine l_e rfl ?_
    refine e_call_00 (may_spec hR hO t b hb64) rfl rfl rfl Try.call37 rfl (fun _ h => CR.ofm (S := S) h (fun e he => List.mem_cons_of_mem _ (he))) ?_
    intro _ _
    refine l_q rfl (q_not rfl rfl) rfl rfl ?_
    refine l_q rfl (q_pick_f rfl rfl rfl) rfl rfl ?_
    refine l_nil ?_
    refine k_then ?_
    refine Pre.caseB 22 rfl (fun hm => ?_) (fun hm => ?_)
    · try simp only [Bool.not_eq_true', Bool.not_eq_false'] at hm
      have hu := pin_no (M := M) (t := t) (b := b) (by rw [hb, hm]; rfl)
      refine c_true rfl ?_
      refine c_seq ?_
      refine c_region _ rfl ?_
      refine l_q rfl (q_assign rfl rfl) rfl rfl ?_
      refine l_nil ?_
      refine k_then ?_
      refine c_ret ?_
      refine k_then_ret ?_
      refine drop0 ?_
      refine r_one rfl rfl ?_
      exact fun _ h => ⟨S, by rw [hu], ⟨by rw [hu]; exact hR, fun _ h => h⟩, h⟩
    · try simp only [Bool.not_eq_true', Bool.not_eq_false'] at hm
      have hbm : (bkB b && M.mayW t b) = true := by rw [hb, hm]; rfl
      refine c_false rfl ?_
      refine c_skip ?_
      refine k_then ?_
      refine c_seq ?_
      refine c_seq ?_
      refine c_region _ rfl ?_
      refine l_q rfl (q_move rfl rfl) rfl rfl ?_
      refine l_q rfl (q_move rfl rfl) rfl rfl ?_
      refine l_e rfl ?_
      refine e_call_00 (place_spec hR hO b) rfl rfl rfl Try.call38 rfl (fun _ h => CR.ofm (S := S) h (fun e he => List.mem_cons_of_mem _ (he))) ?_
      intro _ _
      refine l_q rfl (q_assign rfl rfl) rfl rfl ?_
      refine l_nil ?_
      refine k_then ?_
      refine c_seq ?_
      refine opt_cases (M.find b) (fun hf => ?_) (fun i hf => ?_)
      · refine Pre.setV (t := 8) (c := .int .i64 (-1)) rfl (by rw [hf]; rfl) ?_
        refine c_region _ rfl ?_
        refine l_q rfl (q_move rfl rfl) rfl rfl ?_
        refine l_q rfl (q_geq rfl rfl rfl) rfl rfl ?_
        refine l_nil ?_
        refine k_then ?_
        refine Pre.setB (t := 27) (c := false) rfl (rfl) ?_
        refine c_false rfl ?_
        refine c_skip ?_
        refine k_then ?_
        refine c_seq ?_
        refine c_region _ rfl ?_
        refine l_q rfl (q_move rfl rfl) rfl rfl ?_
        refine l_q rfl (q_move rfl rfl) rfl rfl ?_
        refine l_e rfl ?_
        refine e_call_00 (free_spec hR hO t) rfl rfl rfl Try.call40 rfl (fun _ h => CR.ofm (S := S) h (fun e he => List.mem_cons_of_mem _ (he))) ?_
        intro _ _
        refine l_q rfl (q_assign rfl rfl) rfl rfl ?_
        refine l_nil ?_
        refine k_then ?_
        refine c_seq ?_
        refine c_seq ?_
        refine opt_cases (M.takes t) (fun hk => ?_) (fun k hk => ?_)
        · have hu := pin_queue hbm hf hk
          refine Pre.setV (t := 10) (c := .pointer none) rfl (by rw [hk]; rfl) ?_
          refine c_region _ rfl ?_
          refine l_q rfl (q_move rfl rfl) rfl rfl ?_
          refine l_q rfl (q_eqp rfl Try.underlying85 rfl rfl) rfl rfl ?_
          refine l_nil ?_
          refine k_then ?_
          refine Pre.setB (t := 70) (c := true) rfl (rfl) ?_
          refine c_true rfl ?_
          refine c_seq ?_
          refine c_region _ rfl ?_
          refine l_q rfl (q_move rfl rfl) rfl rfl ?_
          refine l_q rfl (q_loadCAgg ((⟨t, b, false⟩ : Wn).c) rfl Try.isAgg83 Try.sizeOf83 rfl (fun _ h => h.at 0 rfl) (rfl) (rfl)) rfl rfl ?_
          refine Pre.setV (t := 72) (c := .agg (wn (t, b)).c.toArray) rfl (by rw [hwn]) ?_
          refine l_e rfl ?_
          refine e_callH [_] (ask_spec hR hO t b) rfl rfl rfl Try.call41 rfl (fun _ _ => trivial) ?_
          intro v _
          refine Pre.world (St _ _ (_ :: cellsE bc 78 (({ S with vL := v, ln := (M.ask t b).line.map wn } : CS)).cells :: rowE (({ S with vL := v, ln := (M.ask t b).line.map wn } : CS)).vF 80 FC.enc (({ S with vL := v, ln := (M.ask t b).line.map wn } : CS)).fl :: mapT (({ S with vL := v, ln := (M.ask t b).line.map wn } : CS)).bA kI kI (({ S with vL := v, ln := (M.ask t b).line.map wn } : CS)).at' :: mapT (({ S with vL := v, ln := (M.ask t b).line.map wn } : CS)).bL kI vS (({ S with vL := v, ln := (M.ask t b).line.map wn } : CS)).ld :: rowE (({ S with vL := v, ln := (M.ask t b).line.map wn } : CS)).vL 83 Wn.enc (({ S with vL := v, ln := (M.ask t b).line.map wn } : CS)).ln :: (({ S with vL := v, ln := (M.ask t b).line.map wn } : CS)).rows)) (fun _ h => h) ?_
          refine l_nil ?_
          refine k_then ?_
          refine c_seq ?_
          refine c_region _ rfl ?_
          refine l_q rfl (q_assign rfl rfl) rfl rfl ?_
          refine l_nil ?_
          refine k_then ?_
          refine c_ret ?_
          refine k_then_ret ?_
          refine drop0 ?_
          refine r_one rfl rfl ?_
          exact fun _ h => ⟨({ S with vL := v, ln := (M.ask t b).line.map wn } : CS), by rw [hu], ⟨by rw [hu]; exact hR.line v _, fun _ h => h⟩, h⟩
        · have hu := pin_read hbm hf hk
          obtain ⟨y0, hy0, hys, hya⟩ := takes_at hk
          obtain ⟨f0, hfk, hfy⟩ := hR.get hy0
          have hkl := (List.getElem?_eq_some_iff.1 hfk).1
          refine Pre.setV (t := 10) (c := fp S.vF k) rfl (by rw [hk]; rfl) ?_
          refine c_region _ rfl ?_
          refine l_q rfl (q_move rfl rfl) rfl rfl ?_
          refine l_q rfl (q_eqp rfl Try.underlying85 rfl rfl) rfl rfl ?_
          refine l_nil ?_
          refine k_then ?_
          refine Pre.setB (t := 70) (c := false) rfl (rfl) ?_
          refine c_false rfl ?_
          refine c_skip ?_
          refine k_then ?_
          refine c_seq ?_
          refine c_region _ rfl ?_
          refine l_q rfl (q_move rfl rfl) rfl rfl ?_
          refine l_q rfl (q_move rfl rfl) rfl rfl ?_
          refine l_e rfl ?_
          refine e_callH [_] (leave_spec hR hO t) rfl rfl rfl Try.call39 rfl (fun _ _ => trivial) ?_
          intro v _
          refine Pre.world (St _ _ (_ :: cellsE bc 78 (({ S with vL := v, ln := (M.leave t).line.map wn } : CS)).cells :: rowE (({ S with vL := v, ln := (M.leave t).line.map wn } : CS)).vF 80 FC.enc (({ S with vL := v, ln := (M.leave t).line.map wn } : CS)).fl :: mapT (({ S with vL := v, ln := (M.leave t).line.map wn } : CS)).bA kI kI (({ S with vL := v, ln := (M.leave t).line.map wn } : CS)).at' :: mapT (({ S with vL := v, ln := (M.leave t).line.map wn } : CS)).bL kI vS (({ S with vL := v, ln := (M.leave t).line.map wn } : CS)).ld :: rowE (({ S with vL := v, ln := (M.leave t).line.map wn } : CS)).vL 83 Wn.enc (({ S with vL := v, ln := (M.leave t).line.map wn } : CS)).ln :: (({ S with vL := v, ln := (M.leave t).line.map wn } : CS)).rows)) (fun _ h => h) ?_
          refine l_nil ?_
          refine k_then ?_
          refine c_seq ?_
          refine c_region _ rfl ?_
          refine l_q rfl (q_move rfl rfl) rfl rfl ?_
          refine l_q rfl (q_move rfl rfl) rfl rfl ?_
          refine l_q rfl (q_build ((⟨1, b, -1, 1, true, false, nv0⟩ : FC).c) rfl rfl (fun w => by kernel_rfl)) rfl rfl ?_
          refine l_q rfl (q_nilCheck rfl rfl) rfl rfl ?_
          refine pull2 ?_
          refine l_e rfl ?_
          refine e_storeVAgg k ((⟨1, b, -1, 1, true, false, nv0⟩ : FC)) rfl rfl Try.sizeOf80 rfl rfl rfl rfl (by omega) ?_
          refine l_nil ?_
          refine k_then ?_
          refine c_seq ?_
          refine c_region _ rfl ?_
          refine l_q rfl (q_move rfl rfl) rfl rfl ?_
          refine l_q rfl (q_move rfl rfl) rfl rfl ?_
          refine pull5 ?_
          refine pull5 ?_
          refine pull5 ?_
          refine pull3 ?_
          refine pull5 ?_
          refine pull5 ?_
          have hfk2 : ({ S with vL := v, ln := (M.leave t).line.map wn, fl := S.fl.set k (⟨1, b, -1, 1, true, false, nv0⟩ : FC) } : CS).fl[k]? = some (⟨1, b, -1, 1, true, false, nv0⟩ : FC) := List.getElem?_set_self hkl
          have hf64 : ({ S with vL := v, ln := (M.leave t).line.map wn, fl := S.fl.set k (⟨1, b, -1, 1, true, false, nv0⟩ : FC) } : CS).fl.length ≤ 65536 := by
            show (S.fl.set k _).length ≤ _
            rw [List.length_set, hR.len]; have := hO.n64; omega
          refine Pre.world (St _ _ (_ :: CS.H bc ({ S with vL := v, ln := (M.leave t).line.map wn, fl := S.fl.set k (⟨1, b, -1, 1, true, false, nv0⟩ : FC) } : CS))) (fun _ h => h) ?_
          refine l_e rfl ?_
          refine e_callH [_] (placef_spec (S := ({ S with vL := v, ln := (M.leave t).line.map wn, fl := S.fl.set k (⟨1, b, -1, 1, true, false, nv0⟩ : FC) } : CS)) hfk2 hf64) rfl rfl rfl Try.call42 rfl (fun _ _ => trivial) ?_
          intro _ _
          refine Pre.world (St _ _ (_ :: cellsE bc 78 (({ S with vL := v, ln := (M.leave t).line.map wn, fl := S.fl.set k (⟨1, b, -1, 1, true, false, nv0⟩ : FC), at' := mput b (k : Int) S.at' } : CS)).cells :: rowE (({ S with vL := v, ln := (M.leave t).line.map wn, fl := S.fl.set k (⟨1, b, -1, 1, true, false, nv0⟩ : FC), at' := mput b (k : Int) S.at' } : CS)).vF 80 FC.enc (({ S with vL := v, ln := (M.leave t).line.map wn, fl := S.fl.set k (⟨1, b, -1, 1, true, false, nv0⟩ : FC), at' := mput b (k : Int) S.at' } : CS)).fl :: mapT (({ S with vL := v, ln := (M.leave t).line.map wn, fl := S.fl.set k (⟨1, b, -1, 1, true, false, nv0⟩ : FC), at' := mput b (k : Int) S.at' } : CS)).bA kI kI (({ S with vL := v, ln := (M.leave t).line.map wn, fl := S.fl.set k (⟨1, b, -1, 1, true, false, nv0⟩ : FC), at' := mput b (k : Int) S.at' } : CS)).at' :: mapT (({ S with vL := v, ln := (M.leave t).line.map wn, fl := S.fl.set k (⟨1, b, -1, 1, true, false, nv0⟩ : FC), at' := mput b (k : Int) S.at' } : CS)).bL kI vS (({ S with vL := v, ln := (M.leave t).line.map wn, fl := S.fl.set k (⟨1, b, -1, 1, true, false, nv0⟩ : FC), at' := mput b (k : Int) S.at' } : CS)).ld :: rowE (({ S with vL := v, ln := (M.leave t).line.map wn, fl := S.fl.set k (⟨1, b, -1, 1, true, false, nv0⟩ : FC), at' := mput b (k : Int) S.at' } : CS)).vL 83 Wn.enc (({ S with vL := v, ln := (M.leave t).line.map wn, fl := S.fl.set k (⟨1, b, -1, 1, true, false, nv0⟩ : FC), at' := mput b (k : Int) S.at' } : CS)).ln :: (({ S with vL := v, ln := (M.leave t).line.map wn, fl := S.fl.set k (⟨1, b, -1, 1, true, false, nv0⟩ : FC), at' := mput b (k : Int) S.at' } : CS)).rows)) (fun _ h => h) ?_
          refine l_nil ?_
          refine k_then ?_
          refine c_seq ?_
          refine c_region _ rfl ?_
          refine l_q rfl (q_assign rfl rfl) rfl rfl ?_
          refine l_nil ?_
          refine k_then ?_
          refine c_ret ?_
          refine drop0 ?_
          refine r_one rfl rfl ?_
          exact fun _ h => ⟨({ S with vL := v, ln := (M.leave t).line.map wn, fl := S.fl.set k (⟨1, b, -1, 1, true, false, nv0⟩ : FC), at' := mput b (k : Int) S.at' } : CS), by rw [hu], ⟨by rw [hu]; exact (hR.line v (M.leave t).line).new (M := M.leave t) hy0 (by rw [hys]; decide) hf rfl rfl (.inl rfl), fun _ hG => hG.set (.inl ⟨rfl, rfl⟩)⟩, h⟩
      · obtain ⟨y, hy, hyb, hys, hya⟩ := find_at hf
        obtain ⟨f, hfi, hfy⟩ := hR.get hy
        have hlt := (List.getElem?_eq_some_iff.1 hfi).1
        rw [← hfy] at hya hys hyb hy
        have hu := pin_at hbm hf hya
        have hB9 := hO.B9
        have hpb := hO.pins _ (List.mem_of_getElem? hy)
        have hpb1 : 0 ≤ f.pins := hpb.1
        have hpb2 : f.pins ≤ (B : Int) := hpb.2
        refine Pre.setV (t := 8) (c := .int .i64 (i : Int)) rfl (by rw [hf]; rfl) ?_
        refine c_region _ rfl ?_
        refine l_q rfl (q_move rfl rfl) rfl rfl ?_
        refine l_q rfl (q_geq rfl rfl rfl) rfl rfl ?_
        refine l_nil ?_
        refine k_then ?_
        refine Pre.setB (t := 27) (c := true) rfl (decide_eq_true (by omega)) ?_
        refine c_true rfl ?_
        refine c_seq ?_
        refine c_region _ rfl ?_
        refine l_q rfl (q_move rfl rfl) rfl rfl ?_
        refine l_q rfl (q_nilCheck rfl rfl) rfl rfl ?_
        refine l_q rfl (q_fieldAddr rfl Try.underlying78 rfl Try.sizeOf75 rfl rfl) rfl rfl ?_
        refine l_q rfl (q_loadC rfl Try.isAgg75 rfl (fun _ h => h.at 1 rfl) rfl) rfl rfl ?_
        refine l_q rfl (q_move rfl rfl) rfl rfl ?_
        refine l_q rfl (q_indexV i rfl Try.underlying75 Try.sizeOf80 rfl (fun _ h => h.rd 2 rfl) rfl rfl (by omega)) rfl rfl ?_
        refine l_q rfl (q_assign rfl rfl) rfl rfl ?_
        refine l_nil ?_
        refine k_then ?_
        refine c_seq ?_
        refine c_region _ rfl ?_
        refine l_q rfl (q_move rfl rfl) rfl rfl ?_
        refine l_q rfl (q_nilCheck rfl rfl) rfl rfl ?_
        refine l_q rfl (q_fieldAddr rfl Try.underlying80 rfl Try.sizeOf3 rfl rfl) rfl rfl ?_
        refine l_q rfl (q_loadV i 3 rfl Try.isAgg3 rfl rfl (fun _ h => h.rd 2 rfl) hfi rfl) rfl rfl ?_
        refine l_q rfl (q_add64 rfl rfl rfl (by omega)) rfl rfl ?_
        refine l_q rfl (q_nilCheck rfl rfl) rfl rfl ?_
        refine l_q rfl (q_fieldAddr rfl Try.underlying80 rfl Try.sizeOf3 rfl rfl) rfl rfl ?_
        refine pull2 ?_
        refine l_e rfl ?_
        refine e_storeV i 3 (({ f with pins := f.pins + 1 } : FC)) rfl rfl Try.sizeOf3 rfl rfl rfl hfi (by decide) rfl ?_
        refine l_nil ?_
        refine k_then ?_
        refine c_seq ?_
        refine c_region _ rfl ?_
        refine l_q rfl (q_move rfl rfl) rfl rfl ?_
        refine l_q rfl (q_nilCheck rfl rfl) rfl rfl ?_
        refine l_q rfl (q_fieldAddr rfl Try.underlying80 rfl Try.sizeOf4 rfl rfl) rfl rfl ?_
        have hf2 : (S.fl.set i ({ f with pins := f.pins + 1 } : FC))[i]? = some ({ f with pins := f.pins + 1 } : FC) := List.getElem?_set_self hlt
        refine l_e rfl ?_
        refine e_storeV i 4 (({ f with pins := f.pins + 1, ref := true } : FC)) rfl rfl Try.sizeOf4 rfl rfl rfl hf2 (by decide) rfl ?_
        refine l_nil ?_
        refine k_then ?_
        refine c_seq ?_
        refine row_eq (List.set_set ..) ?_
        refine pull5 ?_
        refine pull5 ?_
        refine pull5 ?_
        refine pull3 ?_
        refine pull5 ?_
        refine pull5 ?_
        refine c_region _ rfl ?_
        refine l_q rfl (q_move rfl rfl) rfl rfl ?_
        refine l_q rfl (q_move rfl rfl) rfl rfl ?_
        have hR1 : Rel ({ S with fl := S.fl.set i ({ f with pins := f.pins + 1, ref := true } : FC) } : CS) (M.put i { vw f with pins := (vw f).pins + 1, ref := true }) := hR.put_same hfi rfl rfl Iff.rfl
        have hO1 : Mo.Ok (M.put i { vw f with pins := (vw f).pins + 1, ref := true }) (B + 1) := put_ok_same (y := vw f) (y' := { vw f with pins := (vw f).pins + 1, ref := true }) (hO.mono (Nat.le_succ B) hB) hy rfl rfl rfl ⟨by show 0 ≤ f.pins + 1; omega, by show f.pins + 1 ≤ _; omega⟩ (show (vw f).es.length ≤ 1000 from hO.es (vw f) (List.mem_of_getElem? hy))
        refine Pre.world (St _ _ (_ :: CS.H bc ({ S with fl := S.fl.set i ({ f with pins := f.pins + 1, ref := true } : FC) } : CS))) (fun _ h => h) ?_
        refine l_e rfl ?_
        refine e_callH [_] (leave_spec hR1 hO1 t) rfl rfl rfl Try.call39 rfl (fun _ _ => trivial) ?_
        intro v _
        refine Pre.world (St _ _ (_ :: cellsE bc 78 (({ S with vL := v, ln := (Mo.leave (M.put i { vw f with pins := (vw f).pins + 1, ref := true }) t).line.map wn, fl := S.fl.set i ({ f with pins := f.pins + 1, ref := true } : FC) } : CS)).cells :: rowE (({ S with vL := v, ln := (Mo.leave (M.put i { vw f with pins := (vw f).pins + 1, ref := true }) t).line.map wn, fl := S.fl.set i ({ f with pins := f.pins + 1, ref := true } : FC) } : CS)).vF 80 FC.enc (({ S with vL := v, ln := (Mo.leave (M.put i { vw f with pins := (vw f).pins + 1, ref := true }) t).line.map wn, fl := S.fl.set i ({ f with pins := f.pins + 1, ref := true } : FC) } : CS)).fl :: mapT (({ S with vL := v, ln := (Mo.leave (M.put i { vw f with pins := (vw f).pins + 1, ref := true }) t).line.map wn, fl := S.fl.set i ({ f with pins := f.pins + 1, ref := true } : FC) } : CS)).bA kI kI (({ S with vL := v, ln := (Mo.leave (M.put i { vw f with pins := (vw f).pins + 1, ref := true }) t).line.map wn, fl := S.fl.set i ({ f with pins := f.pins + 1, ref := true } : FC) } : CS)).at' :: mapT (({ S with vL := v, ln := (Mo.leave (M.put i { vw f with pins := (vw f).pins + 1, ref := true }) t).line.map wn, fl := S.fl.set i ({ f with pins := f.pins + 1, ref := true } : FC) } : CS)).bL kI vS (({ S with vL := v, ln := (Mo.leave (M.put i { vw f with pins := (vw f).pins + 1, ref := true }) t).line.map wn, fl := S.fl.set i ({ f with pins := f.pins + 1, ref := true } : FC) } : CS)).ld :: rowE (({ S with vL := v, ln := (Mo.leave (M.put i { vw f with pins := (vw f).pins + 1, ref := true }) t).line.map wn, fl := S.fl.set i ({ f with pins := f.pins + 1, ref := true } : FC) } : CS)).vL 83 Wn.enc (({ S with vL := v, ln := (Mo.leave (M.put i { vw f with pins := (vw f).pins + 1, ref := true }) t).line.map wn, fl := S.fl.set i ({ f with pins := f.pins + 1, ref := true } : FC) } : CS)).ln :: (({ S with vL := v, ln := (Mo.leave (M.put i { vw f with pins := (vw f).pins + 1, ref := true }) t).line.map wn, fl := S.fl.set i ({ f with pins := f.pins + 1, ref := true } : FC) } : CS)).rows)) (fun _ h => h) ?_
        refine l_nil ?_
        refine k_then ?_
        refine c_seq ?_
        refine c_seq ?_
        have hf3 : (S.fl.set i ({ f with pins := f.pins + 1, ref := true } : FC))[i]? = some ({ f with pins := f.pins + 1, ref := true } : FC) := List.getElem?_set_self hlt
        refine c_region _ rfl ?_
        refine l_q rfl (q_move rfl rfl) rfl rfl ?_
        refine l_q rfl (q_nilCheck rfl rfl) rfl rfl ?_
        refine l_q rfl (q_fieldAddr rfl Try.underlying80 rfl Try.sizeOf3 rfl rfl) rfl rfl ?_
        refine l_q rfl (q_loadV i 0 rfl Try.isAgg3 rfl rfl (fun _ h => h.rd 2 rfl) hf3 rfl) rfl rfl ?_
        refine l_q rfl (q_eql rfl rfl rfl) rfl rfl ?_
        refine l_nil ?_
        refine k_then ?_
        refine Pre.caseB 51 rfl (fun hs => ?_) (fun hs => ?_)
        · try simp only [decide_eq_true_eq, decide_eq_false_iff_not, Bool.not_eq_true', Bool.not_eq_false'] at hs
          rw [if_pos (show (vw f).st = 2 from hs)] at hu
          refine c_true rfl ?_
          refine c_seq ?_
          refine c_region _ rfl ?_
          refine l_q rfl (q_assign rfl rfl) rfl rfl ?_
          refine l_nil ?_
          refine k_then ?_
          refine c_ret ?_
          refine k_then_ret ?_
          refine k_then_ret ?_
          refine drop0 ?_
          refine r_one rfl rfl ?_
          exact fun _ h => ⟨({ S with vL := v, ln := (Mo.leave (M.put i { vw f with pins := (vw f).pins + 1, ref := true }) t).line.map wn, fl := S.fl.set i ({ f with pins := f.pins + 1, ref := true } : FC) } : CS), by rw [hu], ⟨by rw [hu]; exact hR1.line v _, fun _ hG => hG.set_same hfi rfl⟩, h⟩
        · try simp only [decide_eq_true_eq, decide_eq_false_iff_not, Bool.not_eq_true', Bool.not_eq_false'] at hs
          rw [if_neg (show ¬ (vw f).st = 2 from hs)] at hu
          have hll := hO.ll
          have hR2 : Rel ({ S with vL := v, ln := (Mo.leave (M.put i { vw f with pins := (vw f).pins + 1, ref := true }) t).line.map wn, fl := S.fl.set i ({ f with pins := f.pins + 1, ref := true } : FC) } : CS) (Mo.leave (M.put i { vw f with pins := (vw f).pins + 1, ref := true }) t) := hR1.line v _
          refine c_false rfl ?_
          refine c_skip ?_
          refine k_then ?_
          refine c_seq ?_
          refine c_draw [(0, some true), (1, some true), (2, some true), (3, some true), (4, some true), (5, some true), (6, some true), (7, some true), (8, some true), (9, some true), (10, some true), (11, some true), (12, some false), (13, some false), (14, none)] [14] [(_, some true), (_, some true), (_, some true), (_, some true), (_, some true), (_, some true), (_, some true), (_, some true), (_, some true), (_, some true), (_, some true), (_, some true), (_, some false), (_, some false), (_, none)] (fun w2 => (cellsE bc 78 ({ S with vL := v, ln := (Mo.leave (M.put i { vw f with pins := (vw f).pins + 1, ref := true }) t).line.map wn, fl := S.fl.set i ({ f with pins := f.pins + 1, ref := true } : FC) } : CS).cells).at w2 ∧ (mapT S.bL kI vS S.ld).at w2) (blind_then (blind_then blind_body)) rfl (by kernel_rfl) (by kernel_rfl) rfl rfl rfl (by kernel_rfl) St.drawn (fun _ h => ⟨h.at 1 rfl, h.at 4 rfl⟩) ?_
          refine d_q rfl (q_move rfl rfl) rfl rfl ?_
          refine d_q rfl (q_nilCheck rfl rfl) rfl rfl ?_
          refine d_q rfl (q_fieldAddr rfl Try.underlying78 rfl Try.sizeOf74 rfl rfl) rfl rfl ?_
          refine d_q rfl (q_loadC rfl Try.isAgg74 rfl (fun _ h => h.1) rfl) rfl rfl ?_
          refine d_q rfl (q_move rfl rfl) rfl rfl ?_
          refine d_q rfl (q_move rfl rfl) rfl rfl ?_
          refine d_q rfl (q_nilCheck rfl rfl) rfl rfl ?_
          refine d_q rfl (q_fieldAddr rfl Try.underlying78 rfl Try.sizeOf74 rfl rfl) rfl rfl ?_
          refine d_q rfl (q_loadC rfl Try.isAgg74 rfl (fun _ h => h.1) rfl) rfl rfl ?_
          refine d_q rfl (q_move rfl rfl) rfl rfl ?_
          refine d_q rfl (q_lookupT (kf := kI) (vf := vS) b rfl Try.underlying74 keyI Try.zeroValue28 rfl rfl (fun _ h => h.2)) rfl rfl ?_
          refine d_q rfl (q_move rfl rfl) rfl rfl ?_
          refine opt_cases (mget b S.ld) (fun hm2 => ?_) (fun q hm2 => ?_)
          · obtain ⟨_, hpu⟩ := mget_no hm2
            have ht : M.told b = [] := by have := hR.ld b; rw [hm2] at this; exact this
            refine Pre.setV (t := 62) (c := nil0) rfl (by rw [hm2]) ?_
            have htl : (([] : List Int)).length ≤ B := by
              rw [← ht]; unfold Mo.told; rw [List.length_map]; exact Nat.le_trans (List.length_filter_le _ _) hll
            refine row0 3 (encI .i64) none ?_
            refine d_e rfl ?_
            refine e_buildSliceV (sz := 1) [.tmp 63] rfl rfl rfl rfl rfl Try.underlying28 Try.sizeOf3 rfl Try.zeroValue3 rfl ?_
            intro b2
            refine d_held (fun _ h => ⟨h.at 3 rfl, h.at 6 rfl⟩) ?_
            refine pull1 ?_
            refine d_e rfl ?_
            refine e_append rfl rfl rfl Try.underlying28 Try.underlying28 info3 rfl rfl rfl rfl rfl (fun _ h => lit_rd (h.at 1 rfl) (encI .i64) [t] rfl rfl) (by simp only [byt3, List.length_append, List.length_cons, List.length_nil]; omega) (by simp only [List.length_append, List.length_cons, List.length_nil]; omega) ?_
            intro v2
            refine pull1 ?_
            refine drop0 ?_
            refine d_held (fun _ h => ⟨h.at 2 rfl, h.at 5 rfl⟩) ?_
            refine Pre.fact (fun _ h => rd_sv (h.rd 0 rfl)) ?_
            rintro ⟨sv, rfl⟩
            refine pull5 ?_
            refine d_t rfl ?_
            refine e_putT (kf := kI) (vf := vS) b (sv, (([] : List Int) ++ [t])) rfl rfl Try.underlying74 keyI rfl rfl rfl ?_
            refine d_nil ?_
            refine k_then ?_
            refine c_seq ?_
            refine c_region _ rfl ?_
            refine l_q rfl (q_assign rfl rfl) rfl rfl ?_
            refine l_nil ?_
            refine k_then ?_
            refine c_ret ?_
            refine k_then_ret ?_
            refine pull2 ?_
            refine drop0 ?_
            refine pull5 ?_
            refine pull1 ?_
            refine pull5 ?_
            refine pull5 ?_
            refine pull5 ?_
            refine pull5 ?_
            have e2 : ({ S with vL := v, ln := (Mo.leave (M.put i { vw f with pins := (vw f).pins + 1, ref := true }) t).line.map wn, fl := S.fl.set i ({ f with pins := f.pins + 1, ref := true } : FC), ld := mput b (sv, (([] : List Int) ++ [t])) S.ld } : CS).rows = S.rows ++ [lrow (b, (sv, (([] : List Int) ++ [t])))] := by unfold CS.rows; show List.map _ (mput b (sv, (([] : List Int) ++ [t])) S.ld) = _; rw [hpu, List.map_append]; rfl
            refine r_one rfl rfl ?_
            exact fun _ h => ⟨({ S with vL := v, ln := (Mo.leave (M.put i { vw f with pins := (vw f).pins + 1, ref := true }) t).line.map wn, fl := S.fl.set i ({ f with pins := f.pins + 1, ref := true } : FC), ld := mput b (sv, (([] : List Int) ++ [t])) S.ld } : CS), by rw [hu], ⟨by rw [hu]; exact hR2.wait t b sv _ (by rw [show Mo.told (Mo.leave (M.put i { vw f with pins := (vw f).pins + 1, ref := true }) t) b = M.told b from rfl, ht]), fun _ hG => hG.set_same hfi rfl⟩, by
                  have h2 := St.addT (pre := [_, _, _, _, _]) (T := S.rows) h
                  rw [← e2] at h2; exact h2⟩
          · obtain ⟨j, hj, _, hpu⟩ := mget_find hm2
            have ht : M.told b = q.2 := by have := hR.ld b; rw [hm2] at this; exact this
            have hrj := rows_at hj
            refine Pre.setV (t := 62) (c := q.1.v) rfl (by rw [hm2]) ?_
            have htl : (q.2).length ≤ B := by
              rw [← ht]; unfold Mo.told; rw [List.length_map]; exact Nat.le_trans (List.length_filter_le _ _) hll
            refine Pre.world (St _ _ (lrow (b, q) :: (_ :: _ :: _ :: _ :: _ :: _ :: S.rows.eraseIdx j))) (fun _ h => St.pullT (pre := [_, _, _, _, _, _]) (T := S.rows) hrj h) ?_
            refine d_e rfl ?_
            refine e_buildSliceV (sz := 1) [.tmp 63] rfl rfl rfl rfl rfl Try.underlying28 Try.sizeOf3 rfl Try.zeroValue3 rfl ?_
            intro b3
            refine d_held (fun _ h => ⟨h.at 3 rfl, h.at 6 rfl⟩) ?_
            refine pull1 ?_
            refine d_e rfl ?_
            refine e_append rfl rfl rfl Try.underlying28 Try.underlying28 info3 rfl rfl rfl rfl rfl (fun _ h => lit_rd (h.at 1 rfl) (encI .i64) [t] rfl rfl) (by simp only [byt3, List.length_append, List.length_cons, List.length_nil]; omega) (by simp only [List.length_append, List.length_cons, List.length_nil]; omega) ?_
            intro v2
            refine pull1 ?_
            refine drop0 ?_
            refine d_held (fun _ h => ⟨h.at 2 rfl, h.at 5 rfl⟩) ?_
            refine Pre.fact (fun _ h => rd_sv (h.rd 0 rfl)) ?_
            rintro ⟨sv, rfl⟩
            refine pull5 ?_
            refine d_t rfl ?_
            refine e_putT (kf := kI) (vf := vS) b (sv, (q.2 ++ [t])) rfl rfl Try.underlying74 keyI rfl rfl rfl ?_
            refine d_nil ?_
            refine k_then ?_
            refine c_seq ?_
            refine c_region _ rfl ?_
            refine l_q rfl (q_assign rfl rfl) rfl rfl ?_
            refine l_nil ?_
            refine k_then ?_
            refine c_ret ?_
            refine k_then_ret ?_
            refine pull2 ?_
            refine drop0 ?_
            refine pull5 ?_
            refine pull1 ?_
            refine pull5 ?_
            refine pull5 ?_
            refine pull5 ?_
            refine pull5 ?_
            have e2 : ({ S with vL := v, ln := (Mo.leave (M.put i { vw f with pins := (vw f).pins + 1, ref := true }) t).line.map wn, fl := S.fl.set i ({ f with pins := f.pins + 1, ref := true } : FC), ld := mput b (sv, (q.2 ++ [t])) S.ld } : CS).rows = S.rows.set j (lrow (b, (sv, (q.2 ++ [t])))) := by rw [rows_set, ← hpu]; rfl
            refine r_one rfl rfl ?_
            exact fun _ h => ⟨({ S with vL := v, ln := (Mo.leave (M.put i { vw f with pins := (vw f).pins + 1, ref := true }) t).line.map wn, fl := S.fl.set i ({ f with pins := f.pins + 1, ref := true } : FC), ld := mput b (sv, (q.2 ++ [t])) S.ld } : CS), by rw [hu], ⟨by rw [hu]; exact hR2.wait t b sv _ (by rw [show Mo.told (Mo.leave (M.put i { vw f with pins := (vw f).pins + 1, ref := true }) t) b = M.told b from rfl, ht]), fun _ hG => hG.set_same hfi rfl⟩, by
                  have h2 := St.pushT (pre := [_, _, _, _, _]) (T := S.rows) (by rw [rows_len]; exact (List.getElem?_eq_some_iff.1 hj).1) h
                  rw [← e2] at h2; exact h2⟩
end Go.Proofs.Ytpfbagkjhchojaa
