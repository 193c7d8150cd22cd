/- cache: Unpin, Set, Fill -/
import Derived.Test.YtpfbagkjhchojaaG
set_option linter.unusedVariables false
set_option linter.unusedSimpArgs false
namespace Go.Proofs.Ytpfbagkjhchojaa
open Go.Sep Go.RowKit

theorem splice_in {X m Y us : List Value} {k : Nat} (h : k + us.length ≤ m.length) : Sep.splice (X ++ (m ++ Y)) (X.length + k) us = X ++ (Sep.splice m k us ++ Y) := by
  rw [Sep.splice_eq _ _ _ (by simp; omega), Sep.splice_eq _ _ _ h, List.take_length_add_append, List.take_append_of_le_length (by omega), Nat.add_assoc, List.drop_length_add_append, List.drop_append_of_le_length (by omega)]
  simp [List.append_assoc]
section
variable {P : Program} {n : Nat} {L : Env} {X : World → Prop} {o : Oper} {Q : Exit → Act → World → Prop} {K : Act → World → Prop} {w0 : World} {D : List Nat} {H : List Ent}
/-- x[j].k = us, a part of several cells -/
theorem e_storeVPart {α : Type} {E : Enc α} {l : List α} {t e : TypeId} {x y : Operand} {v : Value} {off sz : Nat} (j k : Nat) (c : α) {a : α} {us : List Value} (ho : o.op = .store t x y) (hd : o.dst = none) (hs : ∀ w, (sizeOf t).run P w = .ok sz w) (hx : ev L x = some (.pointer (some ⟨blk v, off, none⟩))) (hoff : off = offs v + j * E.sz + k) (hy : ev L y = some (.agg us.toArray))
    (ha : l[j]? = some a) (hus : us.length = sz) (hk : k + sz ≤ E.sz) (hv : ∀ v ∈ us, v.oneCell' = true) (hc : Sep.splice (E.f a) k us = E.f c) (h : Pre n L (St w0 D (rowE v e E (l.set j c) :: H)) K) : EOp P n L (St w0 D (rowE v e E l :: H)) o Q K :=
  EOp.skip _ hd (fun ac w kn hX => by
    have hj := (List.getElem?_eq_some_iff.1 ha).1
    obtain ⟨b, cap, pre, post, rfl, hlc, hp, h1⟩ := row_open hX (by omega)
    have hlen := E.flat_len l
    have hmul : (j + 1) * E.sz ≤ l.length * E.sz := Nat.mul_le_mul_right _ (by omega)
    rw [Nat.add_mul, Nat.one_mul] at hmul
    have hfit : off + 0 + us.length ≤ (pre ++ E.flat l ++ post).length := by subst hoff; simp only [offs, List.length_append, hlen]; omega
    obtain ⟨w', hr, h'⟩ := run_storeCs (P := P) (off := off) us _ 0 h1 hfit hv
    have hset : Sep.splice (pre ++ E.flat l ++ post) (off + 0) us = pre ++ E.flat (l.set j c) ++ post := by
      subst hoff
      simp only [offs, Nat.add_zero]
      have e0 : l = l.take j ++ (a :: l.drop (j + 1)) := by
        have := List.getElem?_eq_some_iff.1 ha
        rw [← this.2]; simp
      have e1 : l.set j c = l.take j ++ (c :: l.drop (j + 1)) := by
        rw [List.set_eq_take_append_cons_drop]; simp [hj]
      have hX : (pre ++ E.flat (l.take j)).length = pre.length + j * E.sz := by
        rw [List.length_append, E.flat_len, List.length_take, Nat.min_eq_left (by omega)]
      have f0 : pre ++ E.flat l ++ post = (pre ++ E.flat (l.take j)) ++ (E.f a ++ (E.flat (l.drop (j + 1)) ++ post)) := by
        conv => lhs; rw [e0]
        rw [E.flat_append, E.flat_cons]; simp [List.append_assoc]
      have f1 : pre ++ E.flat (l.set j c) ++ post = (pre ++ E.flat (l.take j)) ++ (E.f c ++ (E.flat (l.drop (j + 1)) ++ post)) := by
        rw [e1, E.flat_append, E.flat_cons]; simp [List.append_assoc]
      rw [f0, f1, ← hX, splice_in (by rw [E.len]; omega), hc]
    rw [hset] at h'
    refine ⟨w', by simp [execOp, ho, kn.eval hx, kn.eval hy, Instr.storeAt, Instr.sureAddr, storeVar, hs, Value.cells, hus, blk]; simp [hr], ?_⟩
    have := row_close (cap := cap) h' (by omega) (by simpa using hlc) (by simpa using hp)
    simpa using this) h
end

theorem unpin_none {M : Mo} {b : Int} (h : M.frI b 2 = none) : M.unpin b = (false, M) := by unfold Mo.unpin Mo.ready; rw [h]
theorem unpin_zero {M : Mo} {b : Int} {i : Nat} (h : M.frI b 2 = some i) (hp : (M.at' i).pins = 0) : M.unpin b = (false, M) := by unfold Mo.unpin Mo.ready; rw [h]; simp only; rw [if_pos hp]
theorem unpin_some {M : Mo} {b : Int} {i : Nat} (h : M.frI b 2 = some i) (hp : ¬ (M.at' i).pins = 0) : M.unpin b = (true, M.put i { M.at' i with pins := (M.at' i).pins - 1 }) := by unfold Mo.unpin Mo.ready; rw [h]; simp only; rw [if_neg hp]
theorem set_none {M : Mo} {b : Int} (lf : Bool) (es : List En) (h : M.frI b 2 = none) : M.setN b lf es = (false, M) := by unfold Mo.setN Mo.ready; rw [h]
theorem set_some {M : Mo} {b : Int} {i : Nat} (lf : Bool) (es : List En) (h : M.frI b 2 = some i) : M.setN b lf es = (true, M.put i { M.at' i with dirty := true, leaf := lf, es := es }) := by unfold Mo.setN Mo.ready; rw [h]
theorem fill_none {M : Mo} {b : Int} (lf : Bool) (es : List En) (h : M.frI b 1 = none) : M.fill b lf es = (([], false), M) := by unfold Mo.fill; rw [h]
theorem fill_some {M : Mo} {b : Int} {i : Nat} (lf : Bool) (es : List En) (h : M.frI b 1 = some i) : M.fill b lf es = ((M.told b, true), { M.put i { M.at' i with st := 2, leaf := lf, es := es } with loads := M.loads.filter (fun q => !decide (q.2 = b)) }) := by unfold Mo.fill; rw [h]
theorem vw_pins (f : FC) (p : Int) : vw { f with pins := p } = { vw f with pins := p } := rfl
theorem vw_node (f : FC) (nv : NV) (d : Bool) : vw { f with nv := nv, dirty := d } = { vw f with dirty := d, leaf := nv.leaf, es := nv.l } := rfl
theorem set_nodeC (f : FC) (nv : NV) : Sep.splice f.c 6 nv.c = ({ f with nv := nv } : FC).c := rfl
/-- A frame that changes no block, no state, is no other to find. -/
theorem Rel.put_same {S : CS} {M : Mo} (h : Rel S M) {i : Nat} {f f' : FC} {y' : Vw} (hf : S.fl[i]? = some f) (hv : vw f' = y') (hb : f'.blk = f.blk) (hs : (f'.st = 1 ∨ f'.st = 2) ↔ (f.st = 1 ∨ f.st = 2)) : Rel { S with fl := S.fl.set i f' } (M.put i y') :=
  h.put hv S.at' (fun b => by rw [putv_same (h.vw_at hf) (by rw [← hv]; exact hb) (by rw [← hv]; exact hs)]; exact h.at' b) h.na
theorem told_filter {M : Mo} (b c : Int) : (((M.loads.filter (fun q => !decide (q.2 = b))).filter (fun q => decide (q.2 = c))).map Prod.fst) = if c = b then [] else M.told c := by
  unfold Mo.told
  rw [List.filter_filter]
  split
  · rename_i e; subst e
    have : (fun q : Int × Int => decide (q.2 = c) && !decide (q.2 = c)) = fun _ => false := by funext q; cases decide (q.2 = c) <;> rfl
    rw [this]; simp
  · rename_i e
    congr 1
    refine List.filter_congr (fun q _ => ?_)
    by_cases h : q.2 = c
    · rw [decide_eq_true h, decide_eq_false (fun e' => e (by rw [← h, e']))]; rfl
    · rw [decide_eq_false h]; rfl
theorem mdel_keys {β : Type} (a : Int) : ∀ l : List (Int × β), ((mdelT a l).map Prod.fst).Sublist (l.map Prod.fst)
  | [] => List.Sublist.refl _
  | (x, y) :: l => by
    simp only [mdelT]
    split
    · exact (List.sublist_cons_self _ _)
    · exact (mdel_keys a l).cons_cons x
theorem mget_del_same {β : Type} {a : Int} : ∀ {l : List (Int × β)}, (l.map Prod.fst).Nodup → mget a (mdelT a l) = none
  | [], _ => rfl
  | (x, y) :: l, hn => by
    obtain ⟨h1, h2⟩ := List.nodup_cons.1 hn
    simp only [mdelT]
    by_cases e : a = x
    · subst e
      rw [if_pos rfl]
      cases hm : mget a l with
      | none => rfl
      | some z => exact absurd (List.mem_map.2 ⟨_, mget_mem hm, rfl⟩) h1
    · rw [if_neg e]; simp only [mget, if_neg e]; exact mget_del_same h2
/-- Where a key stands in a map. -/
theorem mget_find {β : Type} {a : Int} {y : β} : ∀ {l : List (Int × β)}, mget a l = some y → ∃ j, l[j]? = some (a, y) ∧ mdelT a l = l.eraseIdx j ∧ ∀ z, mput a z l = l.set j (a, z)
  | [], h => by cases h
  | (x, z) :: l, h => by
    simp only [mget] at h
    split at h
    · rename_i e; cases h; subst e; exact ⟨0, rfl, by simp [mdelT], fun z => by simp [mput]⟩
    · rename_i e
      obtain ⟨j, h1, h2, h3⟩ := mget_find h
      exact ⟨j + 1, by simpa using h1, by simp [mdelT, e, h2], fun z => by simp [mput, e, h3]⟩
theorem mget_no {β : Type} {a : Int} : ∀ {l : List (Int × β)}, mget a l = none → mdelT a l = l ∧ ∀ z, mput a z l = l ++ [(a, z)]
  | [], _ => ⟨rfl, fun _ => rfl⟩
  | (x, y) :: l, h => by
    simp only [mget] at h
    split at h
    · cases h
    · rename_i e
      obtain ⟨h1, h2⟩ := mget_no h
      exact ⟨by simp [mdelT, e, h1], fun z => by simp [mput, e, h2]⟩
abbrev lrow (q : Int × (Sv × List Int)) : Ent := rowE q.2.1.v 3 (encI .i64) q.2.2
/-- A block's load is told. -/
theorem Rel.fill {S : CS} {M : Mo} (h : Rel S M) {i : Nat} {f f' : FC} {y' : Vw} (b : Int) (hf : S.fl[i]? = some f) (hv : vw f' = y') (hb : f'.blk = f.blk) (hs : (f'.st = 1 ∨ f'.st = 2) ↔ (f.st = 1 ∨ f.st = 2)) : Rel { S with fl := S.fl.set i f', ld := mdelT b S.ld } { M.put i y' with loads := M.loads.filter (fun q => !decide (q.2 = b)) } := by
  have h1 := h.put_same hf hv hb hs
  refine ⟨h1.fr, h1.ln, h1.hd, h1.at', fun c => ?_, h.nd.sublist (mdel_keys b S.ld), h.na⟩
  show ((M.loads.filter (fun q => !decide (q.2 = b))).filter (fun q => decide (q.2 = c))).map Prod.fst = _
  rw [told_filter]
  by_cases e : c = b
  · subst e; rw [if_pos rfl]; show [] = match mget c (mdelT c S.ld) with | some q => q.2 | none => []
    rw [mget_del_same h.nd]
  · rw [if_neg e]; show _ = match mget c (mdelT b S.ld) with | some q => q.2 | none => []
    rw [mget_delT (fun e' => e e'.symm)]; exact h.ld c
theorem rows_at {S : CS} {j : Nat} {q : Int × (Sv × List Int)} (h : S.ld[j]? = some q) : S.rows[j]? = some (lrow q) := by unfold CS.rows; rw [List.getElem?_map, h]; rfl
theorem rows_erase (S : CS) (j : Nat) : S.rows.eraseIdx j = (S.ld.eraseIdx j).map lrow := (eraseIdx_map' _ _ _).symm
theorem rows_set (S : CS) (j : Nat) (q : Int × (Sv × List Int)) : S.rows.set j (lrow q) = (S.ld.set j q).map lrow := List.map_set.symm
theorem rows_len (S : CS) : S.rows.length = S.ld.length := List.length_map ..
theorem vw_fill {f : FC} (h : f.st = 1) {nv : NV} : vw { f with st := 2, nv := nv } = { vw f with st := 2, leaf := nv.leaf, es := nv.l } := by unfold vw; simp [h]

set_option maxRecDepth 100000 in
set_option maxHeartbeats 1000000 in
theorem unpin_spec {bc : Nat} {S : CS} {M : Mo} {B : Nat} (hR : Rel S M) (hO : M.Ok B) (b : Int) : Con Try.prog 19 [.pointer (some ⟨bc, 0, none⟩), .int .i64 b] (fun _ => True) (S.H bc) (fun S' : CS => .bool (M.unpin b).1) (fun S' => Rel S' (M.unpin b).2 ∧ ∀ G, NIn G S.fl → NIn G S'.fl) (fun S' => S'.H bc) := by
  intro w hE hH
  refine enter (n := 25) (vs := [.pointer (some ⟨bc, 0, none⟩), .int .i64 b]) (St w (dom (S.H bc)) (cellsE bc 78 (S).cells :: rowE (S).vF 80 FC.enc (S).fl :: mapT (S).bA kI kI (S).at' :: mapT (S).bL kI vS (S).ld :: rowE (S).vL 83 Wn.enc (S).ln :: (S).rows)) Try.func19 rfl rfl rfl (St.init hH) ?_
  refine c_seq ?_
  refine c_region _ rfl ?_
  refine l_q rfl (q_assign rfl rfl) rfl rfl ?_
  refine l_nil ?_
  refine k_then ?_
  refine c_seq ?_
  refine c_region _ rfl ?_
  refine l_q rfl (q_move rfl rfl) rfl rfl ?_
  refine l_q rfl (q_move rfl rfl) rfl rfl ?_
  refine l_e rfl ?_
  refine e_call_00 (frame_spec hR hO b 2) rfl rfl rfl Try.call46 rfl (fun _ h => CR.ofm (S := S) h (fun e he => he)) ?_
  intro _ _
  refine l_q rfl (q_assign rfl rfl) rfl rfl ?_
  refine l_nil ?_
  refine k_then ?_
  refine c_seq ?_
  refine c_seq ?_
  refine opt_cases (M.frI b 2) (fun hf => ?_) (fun i hf => ?_)
  · have hu := unpin_none hf
    refine Pre.setV (t := 5) (c := .pointer none) rfl (by rw [hf]; rfl) ?_
    refine c_region _ rfl ?_
    refine l_q rfl (q_move rfl rfl) rfl rfl ?_
    refine l_q rfl (q_eqp rfl Try.underlying85 rfl rfl) rfl rfl ?_
    refine l_q rfl (q_move rfl rfl) rfl rfl ?_
    refine Pre.setB (t := 11) (c := true) rfl (rfl) ?_
    refine l_not rfl rfl rfl ?_
    refine l_not rfl rfl rfl ?_
    refine l_not rfl rfl rfl ?_
    refine l_not rfl rfl rfl ?_
    refine l_not rfl rfl rfl ?_
    refine l_q rfl (q_pick_t rfl rfl rfl) rfl rfl ?_
    refine l_nil ?_
    refine k_then ?_
    refine c_true rfl ?_
    refine c_seq ?_
    refine c_region _ rfl ?_
    refine l_q rfl (q_assign rfl rfl) rfl rfl ?_
    refine l_nil ?_
    refine k_then ?_
    refine c_ret ?_
    refine k_then_ret ?_
    refine r_one rfl rfl ?_
    exact fun _ h => ⟨S, by rw [hu], ⟨by rw [hu]; exact hR, fun _ h => h⟩, h⟩
  · obtain ⟨hf1, hst⟩ := frI_at hf
    obtain ⟨y, hy, hyb, hys, hya⟩ := find_at hf1
    obtain ⟨f, hfi, hfy⟩ := hR.get hy
    have hlt := (List.getElem?_eq_some_iff.1 hfi).1
    rw [hya, ← hfy] at hst
    rw [← hfy] at hya hys hyb hy
    refine Pre.setV (t := 5) (c := fp S.vF i) rfl (by rw [hf]; rfl) ?_
    refine c_region _ rfl ?_
    refine l_q rfl (q_move rfl rfl) rfl rfl ?_
    refine l_q rfl (q_eqp rfl Try.underlying85 rfl rfl) rfl rfl ?_
    refine l_q rfl (q_move rfl rfl) rfl rfl ?_
    refine Pre.setB (t := 11) (c := false) rfl (rfl) ?_
    refine l_q rfl (q_move rfl rfl) rfl rfl ?_
    refine l_q rfl (q_nilCheck rfl rfl) rfl rfl ?_
    refine l_q rfl (q_fieldAddr rfl Try.underlying80 rfl Try.sizeOf3 rfl rfl) rfl rfl ?_
    refine l_q rfl (q_loadV i 3 rfl Try.isAgg3 rfl rfl (fun _ h => h.rd 1 rfl) hfi rfl) rfl rfl ?_
    refine l_q rfl (q_eql rfl rfl rfl) rfl rfl ?_
    refine l_q rfl (q_pick_f rfl rfl rfl) rfl rfl ?_
    refine l_nil ?_
    refine k_then ?_
    refine Pre.caseB 17 rfl (fun hp => ?_) (fun hp => ?_)
    · try simp only [decide_eq_true_eq, decide_eq_false_iff_not, Bool.not_eq_true', Bool.not_eq_false'] at hp
      have hu := unpin_zero hf (by rw [hya]; exact hp)
      refine c_true rfl ?_
      refine c_seq ?_
      refine c_region _ rfl ?_
      refine l_q rfl (q_assign rfl rfl) rfl rfl ?_
      refine l_nil ?_
      refine k_then ?_
      refine c_ret ?_
      refine k_then_ret ?_
      refine r_one rfl rfl ?_
      exact fun _ h => ⟨S, by rw [hu], ⟨by rw [hu]; exact hR, fun _ h => h⟩, h⟩
    · try simp only [decide_eq_true_eq, decide_eq_false_iff_not, Bool.not_eq_true', Bool.not_eq_false'] at hp
      have hu := unpin_some hf (by rw [hya]; exact hp)
      rw [hya] at hu
      have hpb := hO.pins _ (List.mem_of_getElem? hy)
      have hpb1 : 0 ≤ f.pins := hpb.1
      have hpb2 : f.pins ≤ (B : Int) := hpb.2
      have hB9 := hO.B9
      refine c_false rfl ?_
      refine c_skip ?_
      refine k_then ?_
      refine c_seq ?_
      refine c_region _ rfl ?_
      refine l_q rfl (q_move rfl rfl) rfl rfl ?_
      refine l_q rfl (q_nilCheck rfl rfl) rfl rfl ?_
      refine l_q rfl (q_fieldAddr rfl Try.underlying80 rfl Try.sizeOf3 rfl rfl) rfl rfl ?_
      refine l_q rfl (q_loadV i 3 rfl Try.isAgg3 rfl rfl (fun _ h => h.rd 1 rfl) hfi rfl) rfl rfl ?_
      refine l_q rfl (q_sub64 rfl rfl rfl (by omega)) rfl rfl ?_
      refine l_q rfl (q_nilCheck rfl rfl) rfl rfl ?_
      refine l_q rfl (q_fieldAddr rfl Try.underlying80 rfl Try.sizeOf3 rfl rfl) rfl rfl ?_
      refine pull1 ?_
      refine l_e rfl ?_
      refine e_storeV i 3 (({ f with pins := f.pins - 1 } : FC)) rfl rfl Try.sizeOf3 rfl rfl rfl hfi (by decide) rfl ?_
      refine l_nil ?_
      refine k_then ?_
      refine c_seq ?_
      refine c_region _ rfl ?_
      refine l_q rfl (q_assign rfl rfl) rfl rfl ?_
      refine l_nil ?_
      refine k_then ?_
      refine c_ret ?_
      refine pull4 ?_
      refine pull4 ?_
      refine pull4 ?_
      refine pull3 ?_
      refine pull4 ?_
      refine r_one rfl rfl ?_
      exact fun _ h => ⟨{ S with fl := S.fl.set i { f with pins := f.pins - 1 } }, by rw [hu], ⟨by rw [hu]; exact hR.put_same hfi rfl rfl Iff.rfl, fun _ hG => hG.set_same hfi rfl⟩, h⟩
set_option maxRecDepth 100000 in
set_option maxHeartbeats 1000000 in
theorem set_spec {bc : Nat} {S : CS} {M : Mo} {B : Nat} (hR : Rel S M) (hO : M.Ok B) (b : Int) (nv : NV) (hn : nv.l.length ≤ 65536) : Con Try.prog 28 [.pointer (some ⟨bc, 0, none⟩), .int .i64 b, .agg nv.c.toArray] (fun _ => True) (nrow nv :: S.H bc) (fun r : CS × NV => .bool (M.setN b nv.leaf nv.l).1) (fun r => Rel r.1 (M.setN b nv.leaf nv.l).2 ∧ ∀ G, nrow r.2 ∈ G → NIn G S.fl → NIn G r.1.fl) (fun r => nrow r.2 :: nrow nv :: r.1.H bc) := by
  intro w hE hH
  refine enter (n := 21) (vs := [.pointer (some ⟨bc, 0, none⟩), .int .i64 b, .agg nv.c.toArray]) (St w (dom (nrow nv :: S.H bc)) (nrow nv :: cellsE bc 78 (S).cells :: rowE (S).vF 80 FC.enc (S).fl :: mapT (S).bA kI kI (S).at' :: mapT (S).bL kI vS (S).ld :: rowE (S).vL 83 Wn.enc (S).ln :: (S).rows)) Try.func28 rfl rfl rfl (St.init hH) ?_
  refine c_seq ?_
  refine c_region _ rfl ?_
  refine l_e rfl ?_
  refine e_box rfl rfl rfl rfl ?_
  intro bn
  refine cells_eq (show _ = nv.c from rfl) ?_
  refine l_q rfl (q_assign rfl rfl) rfl rfl ?_
  refine l_nil ?_
  refine k_then ?_
  refine c_seq ?_
  refine c_region _ rfl ?_
  refine l_q rfl (q_move rfl rfl) rfl rfl ?_
  refine l_q rfl (q_move rfl rfl) rfl rfl ?_
  refine l_e rfl ?_
  refine e_call_00 (frame_spec hR hO b 2) rfl rfl rfl Try.call46 rfl (fun _ h => CR.ofm (S := S) h (fun e he => List.mem_cons_of_mem _ (List.mem_cons_of_mem _ (he)))) ?_
  intro _ _
  refine l_q rfl (q_assign rfl rfl) rfl rfl ?_
  refine l_nil ?_
  refine k_then ?_
  refine c_seq ?_
  refine c_seq ?_
  refine opt_cases (M.frI b 2) (fun hf => ?_) (fun i hf => ?_)
  · have hu := set_none nv.leaf nv.l hf
    refine Pre.setV (t := 7) (c := .pointer none) rfl (by rw [hf]; rfl) ?_
    refine c_region _ rfl ?_
    refine l_q rfl (q_move rfl rfl) rfl rfl ?_
    refine l_q rfl (q_eqp rfl Try.underlying85 rfl rfl) rfl rfl ?_
    refine l_nil ?_
    refine k_then ?_
    refine Pre.setB (t := 12) (c := true) rfl (rfl) ?_
    refine c_true rfl ?_
    refine c_seq ?_
    refine c_region _ rfl ?_
    refine l_q rfl (q_assign rfl rfl) rfl rfl ?_
    refine l_nil ?_
    refine k_then ?_
    refine c_ret ?_
    refine k_then_ret ?_
    refine drop0 ?_
    refine row0 121 En.enc none ?_
    refine r_one rfl rfl ?_
    exact fun _ h => ⟨(S, ⟨true, sv0, []⟩), by rw [hu], ⟨by rw [hu]; exact hR, fun _ _ h => h⟩, h⟩
  · obtain ⟨hf1, hst⟩ := frI_at hf
    obtain ⟨y, hy, hyb, hys, hya⟩ := find_at hf1
    obtain ⟨f, hfi, hfy⟩ := hR.get hy
    have hlt := (List.getElem?_eq_some_iff.1 hfi).1
    rw [hya, ← hfy] at hst
    rw [← hfy] at hya hys hyb hy
    refine Pre.setV (t := 7) (c := fp S.vF i) rfl (by rw [hf]; rfl) ?_
    refine c_region _ rfl ?_
    refine l_q rfl (q_move rfl rfl) rfl rfl ?_
    refine l_q rfl (q_eqp rfl Try.underlying85 rfl rfl) rfl rfl ?_
    refine l_nil ?_
    refine k_then ?_
    refine Pre.setB (t := 12) (c := false) rfl (rfl) ?_
    refine c_false rfl ?_
    refine c_skip ?_
    refine k_then ?_
    refine c_seq ?_
    refine c_region _ rfl ?_
    refine l_q rfl (q_move rfl rfl) rfl rfl ?_
    refine l_q rfl (q_move rfl rfl) rfl rfl ?_
    refine l_q rfl (q_loadCAgg (nv.c) rfl Try.isAgg37 Try.sizeOf37 rfl (fun _ h => h.at 0 rfl) (rfl) (rfl)) rfl rfl ?_
    have hu := set_some nv.leaf nv.l hf
    rw [hya] at hu
    refine l_e rfl ?_
    refine e_call_01 (own_spec nv hn) rfl rfl rfl Try.call47 rfl (fun _ h => h.rd 1 rfl) ?_
    intro s _
    refine l_q rfl (q_nilCheck rfl rfl) rfl rfl ?_
    refine l_q rfl (q_fieldAddr rfl Try.underlying80 rfl Try.sizeOf37 rfl rfl) rfl rfl ?_
    refine pull4 ?_
    refine l_e rfl ?_
    refine e_storeVPart i 6 ({ f with nv := (⟨nv.leaf, s, nv.l⟩ : NV) } : FC) rfl rfl Try.sizeOf37 rfl rfl rfl hfi rfl (by decide) (NV.one _) (set_nodeC _ _) ?_
    refine l_q rfl (q_nilCheck rfl rfl) rfl rfl ?_
    refine l_q rfl (q_fieldAddr rfl Try.underlying80 rfl Try.sizeOf4 rfl rfl) rfl rfl ?_
    have hf2 : (S.fl.set i ({ f with nv := (⟨nv.leaf, s, nv.l⟩ : NV) } : FC))[i]? = some ({ f with nv := (⟨nv.leaf, s, nv.l⟩ : NV) } : FC) := List.getElem?_set_self hlt
    refine l_e rfl ?_
    refine e_storeV i 5 (({ f with nv := (⟨nv.leaf, s, nv.l⟩ : NV), dirty := true } : FC)) rfl rfl Try.sizeOf4 rfl rfl rfl hf2 (by decide) rfl ?_
    refine l_nil ?_
    refine k_then ?_
    refine c_seq ?_
    refine c_region _ rfl ?_
    refine l_q rfl (q_assign rfl rfl) rfl rfl ?_
    refine l_nil ?_
    refine k_then ?_
    refine c_ret ?_
    refine row_eq (List.set_set ..) ?_
    refine pull2 ?_
    refine drop0 ?_
    refine pull6 ?_
    refine pull6 ?_
    refine pull6 ?_
    refine pull3 ?_
    refine pull6 ?_
    refine pull6 ?_
    refine pull6 ?_
    refine r_one rfl rfl ?_
    exact fun _ h => ⟨({ S with fl := S.fl.set i ({ f with nv := (⟨nv.leaf, s, nv.l⟩ : NV), dirty := true } : FC) }, (⟨nv.leaf, s, nv.l⟩ : NV)), by rw [hu], ⟨by rw [hu]; exact hR.put_same hfi rfl rfl Iff.rfl, fun G hG1 hG => hG.set (.inr hG1)⟩, h⟩
set_option maxRecDepth 100000 in
set_option maxHeartbeats 1000000 in
theorem fill_spec {bc : Nat} {S : CS} {M : Mo} {B : Nat} (hR : Rel S M) (hO : M.Ok B) (b : Int) (nv : NV) (hn : nv.l.length ≤ 65536) : Con Try.prog 14 [.pointer (some ⟨bc, 0, none⟩), .int .i64 b, .agg nv.c.toArray] (fun _ => True) (nrow nv :: S.H bc) (fun r : CS × NV × Value => .tuple #[r.2.2, .bool (M.fill b nv.leaf nv.l).1.2]) (fun r => Rel r.1 (M.fill b nv.leaf nv.l).2 ∧ ∀ G, nrow r.2.1 ∈ G → NIn G S.fl → NIn G r.1.fl) (fun r => rowE r.2.2 3 (encI .i64) (M.fill b nv.leaf nv.l).1.1 :: nrow r.2.1 :: nrow nv :: r.1.H bc) := by
  intro w hE hH
  refine enter (n := 35) (vs := [.pointer (some ⟨bc, 0, none⟩), .int .i64 b, .agg nv.c.toArray]) (St w (dom (nrow nv :: S.H bc)) (nrow nv :: cellsE bc 78 (S).cells :: rowE (S).vF 80 FC.enc (S).fl :: mapT (S).bA kI kI (S).at' :: mapT (S).bL kI vS (S).ld :: rowE (S).vL 83 Wn.enc (S).ln :: (S).rows)) Try.func14 rfl rfl rfl (St.init hH) ?_
  refine c_seq ?_
  refine c_region _ rfl ?_
  refine l_e rfl ?_
  refine e_box rfl rfl rfl rfl ?_
  intro bn
  refine cells_eq (show _ = nv.c from rfl) ?_
  refine l_q rfl (q_assign rfl rfl) rfl rfl ?_
  refine l_q rfl (q_assign rfl rfl) rfl rfl ?_
  refine l_nil ?_
  refine k_then ?_
  refine c_seq ?_
  refine c_region _ rfl ?_
  refine l_q rfl (q_move rfl rfl) rfl rfl ?_
  refine l_q rfl (q_move rfl rfl) rfl rfl ?_
  refine l_e rfl ?_
  refine e_call_00 (frame_spec hR hO b 1) rfl rfl rfl Try.call46 rfl (fun _ h => CR.ofm (S := S) h (fun e he => List.mem_cons_of_mem _ (List.mem_cons_of_mem _ (he)))) ?_
  intro _ _
  refine l_q rfl (q_assign rfl rfl) rfl rfl ?_
  refine l_nil ?_
  refine k_then ?_
  refine c_seq ?_
  refine c_seq ?_
  refine opt_cases (M.frI b 1) (fun hf => ?_) (fun i hf => ?_)
  · have hu := fill_none nv.leaf nv.l hf
    refine Pre.setV (t := 8) (c := .pointer none) rfl (by rw [hf]; rfl) ?_
    refine c_region _ rfl ?_
    refine l_q rfl (q_move rfl rfl) rfl rfl ?_
    refine l_q rfl (q_eqp rfl Try.underlying85 rfl rfl) rfl rfl ?_
    refine l_nil ?_
    refine k_then ?_
    refine Pre.setB (t := 14) (c := true) rfl (rfl) ?_
    refine c_true rfl ?_
    refine c_seq ?_
    refine c_region _ rfl ?_
    refine l_q rfl (q_assign rfl rfl) rfl rfl ?_
    refine l_q rfl (q_assign rfl rfl) rfl rfl ?_
    refine l_nil ?_
    refine k_then ?_
    refine c_ret ?_
    refine k_then_ret ?_
    refine drop0 ?_
    refine row0 121 En.enc none ?_
    refine row0 3 (encI .i64) none ?_
    refine r_many (rs := [.tmp 6, .tmp 7]) rfl rfl ?_
    exact fun _ h => ⟨(S, ⟨true, sv0, []⟩, nil0), by rw [hu], ⟨by rw [hu]; exact hR, fun _ _ h => h⟩, by rw [hu]; exact h⟩
  · obtain ⟨hf1, hst⟩ := frI_at hf
    obtain ⟨y, hy, hyb, hys, hya⟩ := find_at hf1
    obtain ⟨f, hfi, hfy⟩ := hR.get hy
    have hlt := (List.getElem?_eq_some_iff.1 hfi).1
    rw [hya, ← hfy] at hst
    rw [← hfy] at hya hys hyb hy
    refine Pre.setV (t := 8) (c := fp S.vF i) rfl (by rw [hf]; rfl) ?_
    refine c_region _ rfl ?_
    refine l_q rfl (q_move rfl rfl) rfl rfl ?_
    refine l_q rfl (q_eqp rfl Try.underlying85 rfl rfl) rfl rfl ?_
    refine l_nil ?_
    refine k_then ?_
    refine Pre.setB (t := 14) (c := false) rfl (rfl) ?_
    refine c_false rfl ?_
    refine c_skip ?_
    refine k_then ?_
    refine c_seq ?_
    refine c_region _ rfl ?_
    refine l_q rfl (q_move rfl rfl) rfl rfl ?_
    refine l_q rfl (q_move rfl rfl) rfl rfl ?_
    refine l_q rfl (q_loadCAgg (nv.c) rfl Try.isAgg37 Try.sizeOf37 rfl (fun _ h => h.at 0 rfl) (rfl) (rfl)) rfl rfl ?_
    have hu := fill_some nv.leaf nv.l hf
    rw [hya] at hu
    refine l_e rfl ?_
    refine e_call_01 (own_spec nv hn) rfl rfl rfl Try.call47 rfl (fun _ h => h.rd 1 rfl) ?_
    intro s _
    refine l_q rfl (q_nilCheck rfl rfl) rfl rfl ?_
    refine l_q rfl (q_fieldAddr rfl Try.underlying80 rfl Try.sizeOf3 rfl rfl) rfl rfl ?_
    refine pull4 ?_
    refine l_e rfl ?_
    refine e_storeV i 0 (({ f with st := 2 } : FC)) rfl rfl Try.sizeOf3 rfl rfl rfl hfi (by decide) rfl ?_
    refine l_q rfl (q_nilCheck rfl rfl) rfl rfl ?_
    refine l_q rfl (q_fieldAddr rfl Try.underlying80 rfl Try.sizeOf37 rfl rfl) rfl rfl ?_
    have hf2 : (S.fl.set i ({ f with st := 2 } : FC))[i]? = some ({ f with st := 2 } : FC) := List.getElem?_set_self hlt
    refine l_e rfl ?_
    refine e_storeVPart i 6 ({ f with st := 2, nv := (⟨nv.leaf, s, nv.l⟩ : NV) } : FC) rfl rfl Try.sizeOf37 rfl rfl rfl hf2 rfl (by decide) (NV.one _) (set_nodeC _ _) ?_
    refine l_nil ?_
    refine k_then ?_
    refine c_seq ?_
    refine c_region _ rfl ?_
    refine l_q rfl (q_move rfl rfl) rfl rfl ?_
    refine l_q rfl (q_nilCheck rfl rfl) rfl rfl ?_
    refine l_q rfl (q_fieldAddr rfl Try.underlying78 rfl Try.sizeOf74 rfl rfl) rfl rfl ?_
    refine l_q rfl (q_loadC rfl Try.isAgg74 rfl (fun _ h => h.at 4 rfl) rfl) rfl rfl ?_
    refine l_q rfl (q_move rfl rfl) rfl rfl ?_
    refine l_q rfl (q_lookupT (kf := kI) (vf := vS) b rfl Try.underlying74 keyI Try.zeroValue28 rfl rfl (fun _ h => h.at 6 rfl)) rfl rfl ?_
    refine l_q rfl (q_assign rfl rfl) rfl rfl ?_
    refine l_nil ?_
    refine k_then ?_
    refine c_seq ?_
    refine row_eq (List.set_set ..) ?_
    refine opt_cases (mget b S.ld) (fun hm => ?_) (fun q hm => ?_)
    · obtain ⟨hde, _⟩ := mget_no hm
      have ht : M.told b = [] := by have := hR.ld b; rw [hm] at this; exact this
      refine Pre.setV (t := 9) (c := nil0) rfl (by rw [hm]) ?_
      refine c_region _ rfl ?_
      refine l_q rfl (q_move rfl rfl) rfl rfl ?_
      refine l_q rfl (q_nilCheck rfl rfl) rfl rfl ?_
      refine l_q rfl (q_fieldAddr rfl Try.underlying78 rfl Try.sizeOf74 rfl rfl) rfl rfl ?_
      refine l_q rfl (q_loadC rfl Try.isAgg74 rfl (fun _ h => h.at 4 rfl) rfl) rfl rfl ?_
      refine l_q rfl (q_move rfl rfl) rfl rfl ?_
      refine pull6 ?_
      refine l_e rfl ?_
      refine e_deleteT b rfl rfl Try.underlying74 keyI rfl rfl ?_
      refine l_nil ?_
      refine k_then ?_
      refine c_seq ?_
      refine c_region _ rfl ?_
      refine l_q rfl (q_move rfl rfl) rfl rfl ?_
      refine l_q rfl (q_assign rfl rfl) rfl rfl ?_
      refine l_q rfl (q_assign rfl rfl) rfl rfl ?_
      refine l_nil ?_
      refine k_then ?_
      refine c_ret ?_
      refine pull3 ?_
      refine drop0 ?_
      refine pull6 ?_
      refine pull1 ?_
      refine pull6 ?_
      refine pull3 ?_
      refine pull6 ?_
      refine pull6 ?_
      refine pull6 ?_
      have e1 : (M.fill b nv.leaf nv.l).1.1 = [] := by rw [hu]; exact ht
      have e2 : ({ S with fl := S.fl.set i ({ f with st := 2, nv := (⟨nv.leaf, s, nv.l⟩ : NV) } : FC), ld := mdelT b S.ld } : CS).rows = S.rows := by unfold CS.rows; show List.map _ (mdelT b S.ld) = _; rw [hde]
      refine row0 3 (encI .i64) none ?_
      refine r_many (rs := [.tmp 6, .tmp 7]) rfl rfl ?_
      exact fun _ h => ⟨(({ S with fl := S.fl.set i ({ f with st := 2, nv := (⟨nv.leaf, s, nv.l⟩ : NV) } : FC), ld := mdelT b S.ld } : CS), (⟨nv.leaf, s, nv.l⟩ : NV), nil0), by rw [hu], ⟨by rw [hu]; exact hR.fill b hfi (vw_fill hst) rfl ⟨fun _ => .inl hst, fun _ => .inr rfl⟩, fun G hG1 hG => hG.set (.inr hG1)⟩, by
          rw [e1]
          have h2 := h
          rw [← e2] at h2; exact h2⟩
    · obtain ⟨j, hj, hde, _⟩ := mget_find hm
      have ht : M.told b = q.2 := by have := hR.ld b; rw [hm] at this; exact this
      have hrj := rows_at hj
      refine Pre.setV (t := 9) (c := q.1.v) rfl (by rw [hm]) ?_
      refine c_region _ rfl ?_
      refine l_q rfl (q_move rfl rfl) rfl rfl ?_
      refine l_q rfl (q_nilCheck rfl rfl) rfl rfl ?_
      refine l_q rfl (q_fieldAddr rfl Try.underlying78 rfl Try.sizeOf74 rfl rfl) rfl rfl ?_
      refine l_q rfl (q_loadC rfl Try.isAgg74 rfl (fun _ h => h.at 4 rfl) rfl) rfl rfl ?_
      refine l_q rfl (q_move rfl rfl) rfl rfl ?_
      refine pull6 ?_
      refine l_e rfl ?_
      refine e_deleteT b rfl rfl Try.underlying74 keyI rfl rfl ?_
      refine l_nil ?_
      refine k_then ?_
      refine c_seq ?_
      refine c_region _ rfl ?_
      refine l_q rfl (q_move rfl rfl) rfl rfl ?_
      refine l_q rfl (q_assign rfl rfl) rfl rfl ?_
      refine l_q rfl (q_assign rfl rfl) rfl rfl ?_
      refine l_nil ?_
      refine k_then ?_
      refine c_ret ?_
      refine pull3 ?_
      refine drop0 ?_
      refine pull6 ?_
      refine pull1 ?_
      refine pull6 ?_
      refine pull3 ?_
      refine pull6 ?_
      refine pull6 ?_
      refine pull6 ?_
      have e1 : (M.fill b nv.leaf nv.l).1.1 = q.2 := by rw [hu]; exact ht
      have e2 : ({ S with fl := S.fl.set i ({ f with st := 2, nv := (⟨nv.leaf, s, nv.l⟩ : NV) } : FC), ld := mdelT b S.ld } : CS).rows = S.rows.eraseIdx j := by rw [rows_erase, ← hde]; rfl
      refine r_many (rs := [.tmp 6, .tmp 7]) rfl rfl ?_
      exact fun _ h => ⟨(({ S with fl := S.fl.set i ({ f with st := 2, nv := (⟨nv.leaf, s, nv.l⟩ : NV) } : FC), ld := mdelT b S.ld } : CS), (⟨nv.leaf, s, nv.l⟩ : NV), q.1.v), by rw [hu], ⟨by rw [hu]; exact hR.fill b hfi (vw_fill hst) rfl ⟨fun _ => .inl hst, fun _ => .inr rfl⟩, fun G hG1 hG => hG.set (.inr hG1)⟩, by
          rw [e1]
          have h2 := St.pullT (pre := [_, _, _, _, _, _, _]) (T := S.rows) hrj h
          rw [← e2] at h2; exact h2⟩
end Go.Proofs.Ytpfbagkjhchojaa
