/- histories: the reference Calls -/
import Derived.Test.YthfdmeikpbkpaaaF
set_option linter.unusedVariables false
set_option linter.unusedSimpArgs false
namespace Go.Proofs.Ythfdmeikpbkpaaa
open Go.Sep Go.RowKit

theorem splice_in {X m Y us : List Value} {k : Nat} (h : k + us.length ≤ m.length) : Sep.splice (X ++ (m ++ Y)) (X.length + k) us = X ++ (Sep.splice m k us ++ Y) := by
  rw [Sep.splice_eq _ _ _ (by simp; omega), Sep.splice_eq _ _ _ h, List.take_length_add_append, List.take_append_of_le_length (by omega), Nat.add_assoc, List.drop_length_add_append, List.drop_append_of_le_length (by omega)]
  simp [List.append_assoc]
section
variable {P : Program} {n : Nat} {L : Env} {X : World → Prop} {o : Oper} {Q : Exit → Act → World → Prop} {K : Act → World → Prop} {w0 : World} {D : List Nat} {H : List Ent}
/-- x[j].k = us, a part of several cells -/
theorem e_storeVPart {α : Type} {E : Enc α} {l : List α} {t e : TypeId} {x y : Operand} {v : Value} {off sz : Nat} (j k : Nat) (c : α) {a : α} {us : List Value} (ho : o.op = .store t x y) (hd : o.dst = none) (hs : ∀ w, (sizeOf t).run P w = .ok sz w) (hx : ev L x = some (.pointer (some ⟨blk v, off, none⟩))) (hoff : off = offs v + j * E.sz + k) (hy : ev L y = some (.agg us.toArray))
    (ha : l[j]? = some a) (hus : us.length = sz) (hk : k + sz ≤ E.sz) (hv : ∀ v ∈ us, v.oneCell' = true) (hc : Sep.splice (E.f a) k us = E.f c) (h : Pre n L (St w0 D (rowE v e E (l.set j c) :: H)) K) : EOp P n L (St w0 D (rowE v e E l :: H)) o Q K :=
  EOp.skip _ hd (fun ac w kn hX => by
    have hj := (List.getElem?_eq_some_iff.1 ha).1
    obtain ⟨b, cap, pre, post, rfl, hlc, hp, h1⟩ := row_open hX (by omega)
    have hlen := E.flat_len l
    have hmul : (j + 1) * E.sz ≤ l.length * E.sz := Nat.mul_le_mul_right _ (by omega)
    rw [Nat.add_mul, Nat.one_mul] at hmul
    have hfit : off + 0 + us.length ≤ (pre ++ E.flat l ++ post).length := by subst hoff; simp only [offs, List.length_append, hlen]; omega
    obtain ⟨w', hr, h'⟩ := run_storeCs (P := P) (off := off) us _ 0 h1 hfit hv
    have hset : Sep.splice (pre ++ E.flat l ++ post) (off + 0) us = pre ++ E.flat (l.set j c) ++ post := by
      subst hoff
      simp only [offs, Nat.add_zero]
      have e0 : l = l.take j ++ (a :: l.drop (j + 1)) := by
        have := List.getElem?_eq_some_iff.1 ha
        rw [← this.2]; simp
      have e1 : l.set j c = l.take j ++ (c :: l.drop (j + 1)) := by
        rw [List.set_eq_take_append_cons_drop]; simp [hj]
      have hX : (pre ++ E.flat (l.take j)).length = pre.length + j * E.sz := by
        rw [List.length_append, E.flat_len, List.length_take, Nat.min_eq_left (by omega)]
      have f0 : pre ++ E.flat l ++ post = (pre ++ E.flat (l.take j)) ++ (E.f a ++ (E.flat (l.drop (j + 1)) ++ post)) := by
        conv => lhs; rw [e0]
        rw [E.flat_append, E.flat_cons]; simp [List.append_assoc]
      have f1 : pre ++ E.flat (l.set j c) ++ post = (pre ++ E.flat (l.take j)) ++ (E.f c ++ (E.flat (l.drop (j + 1)) ++ post)) := by
        rw [e1, E.flat_append, E.flat_cons]; simp [List.append_assoc]
      rw [f0, f1, ← hX, splice_in (by rw [E.len]; omega), hc]
    rw [hset] at h'
    refine ⟨w', by simp [execOp, ho, kn.eval hx, kn.eval hy, Instr.storeAt, Instr.sureAddr, storeVar, hs, Value.cells, hus, blk]; simp [hr], ?_⟩
    have := row_close (cap := cap) h' (by omega) (by simpa using hlc) (by simpa using hp)
    simpa using this) h
end
/-! ## Calls -/
def op0 : Op := ⟨0, .empty, .empty, 0, by decide, by decide, by decide, by decide⟩
def evOp (ops : List (List Op)) (e : Ev) : Op := (ops.getD e.client.toNat []).getD e.index.toNat op0
def mkC (e : Ev) (o : Op) (i : Nat) (h : i ≤ 65536) : Ca := ⟨e.client, e.index, o, i, -1, an0, e.wc, e.wi, wf_n8 h, by decide⟩
def newC (ops : List (List Op)) (i : Nat) (e : Ev) : Ca := if h : i ≤ 65536 then mkC e (evOp ops e) i h else mkC e (evOp ops e) 0 (by decide)
def toC (c : Ca) (i : Nat) (h : i ≤ 65536) : Ca := { c with to' := (i : Int), wt := wf_n8 h }
def ansC (i : Nat) (e : Ev) (c : Ca) : Ca := if c.client = e.client ∧ c.index = e.index then (if h : i ≤ 65536 then { toC c i h with a := e.a } else c) else c
def callS (ops : List (List Op)) (l : List Ca) (i : Nat) (e : Ev) : List Ca := if e.done = true then l.map (ansC i e) else l ++ [newC ops i e]
def callsOf (ops : List (List Op)) (evs : List Ev) : Nat → List Ca
  | 0 => []
  | i + 1 => match evs[i]? with | some e => callS ops (callsOf ops evs i) i e | none => callsOf ops evs i
theorem calls_succ {ops : List (List Op)} {evs : List Ev} {i : Nat} {x : Ev} (h : evs[i]? = some x) : callsOf ops evs (i + 1) = callS ops (callsOf ops evs i) i x := by simp only [callsOf, h]
theorem calls_len (ops : List (List Op)) (evs : List Ev) : ∀ i, (callsOf ops evs i).length ≤ i
  | 0 => Nat.le_refl _
  | i + 1 => by
    have ih := calls_len ops evs i
    simp only [callsOf]
    split
    · unfold callS
      split
      · rw [List.length_map]; omega
      · rw [List.length_append]; simp; omega
    · omega
theorem set_to (c : Ca) (i : Nat) (h : i ≤ 65536) : (Ca.c c).set 7 (.int .i64 (i : Int)) = Ca.c (toC c i h) := rfl
theorem set_an (c : Ca) (a : An) : Sep.splice (Ca.c c) 8 (An.c a) = Ca.c { c with a := a } := by
  have e : ∀ c : Ca, Ca.c c = ([.int .i64 c.client, .int .i64 c.index] ++ (c.op.c ++ [.int .i64 c.from', .int .i64 c.to'])) ++ (c.a.c ++ []) := fun c => by simp [Ca.c, List.append_assoc]
  rw [e, e]
  exact Sep.splice_mid (a := [.int .i64 c.client, .int .i64 c.index] ++ (c.op.c ++ [.int .i64 c.from', .int .i64 c.to'])) (b := c.a.c) (c := []) (vs := a.c) (k := 8) rfl (by rw [An.c_len, An.c_len])
/-- Where events are a history each begins or ends an operation. -/
theorem chk_at {ops : List (List Op)} {l : List Ev} {i : Nat} {x : Ev} (h : (chk ops l).isSome = true) (hx : l[i]? = some x) : ∃ (c k : Nat) (lo : List Op) (o : Op), x.client = (c : Int) ∧ x.index = (k : Int) ∧ ops[c]? = some lo ∧ lo[k]? = some o ∧ evOp ops x = o := by
  cases h1 : chk ops (l.take i) with
  | none => rw [chk_none h1] at h; cases h
  | some st =>
    have h2 := chk_snoc hx h1
    cases h3 : stp ops st x with
    | none => rw [h3] at h2; rw [chk_none h2] at h; cases h
    | some st' =>
      unfold stp at h3
      split at h3
      · rename_i hc
        split at h3
        · rename_i hok
          unfold okB at hok
          simp only [Bool.and_eq_true, decide_eq_true_eq] at hok
          obtain ⟨⟨hk, _⟩, hm⟩ := hok
          have hlt : x.client.toNat < ops.length := by omega
          refine ⟨x.client.toNat, (st.getD x.client.toNat (0, false)).1, ops[x.client.toNat], ?_⟩
          have hl : ops.getD x.client.toNat [] = ops[x.client.toNat] := by rw [List.getD_eq_getElem?_getD, List.getElem?_eq_getElem hlt]; rfl
          rw [hl] at hm
          cases ho : (ops[x.client.toNat])[(st.getD x.client.toNat (0, false)).1]? with
          | none => rw [ho] at hm; cases hm
          | some o =>
            refine ⟨o, by omega, hk, List.getElem?_eq_getElem hlt, rfl, ?_⟩
            unfold evOp
            rw [hl, hk, Int.toNat_natCast, List.getD_eq_getElem?_getD, ho]; rfl
        · cases h3
      · cases h3
theorem ans_step {f : Ca → Ca} {l : List Ca} {j : Nat} {y : Ca} (h : l[j]? = some y) : ((l.take j).map f ++ l.drop j).set j (f y) = (l.take (j + 1)).map f ++ l.drop (j + 1) := by
  have hj := (List.getElem?_eq_some_iff.1 h).1
  have hd : l.drop j = y :: l.drop (j + 1) := by
    rw [← (List.getElem?_eq_some_iff.1 h).2]; exact List.drop_eq_getElem_cons hj
  rw [hd, List.set_append_right _ _ (by rw [List.length_map, List.length_take]; omega), List.length_map, List.length_take, show j - min j l.length = 0 from by omega, List.take_add_one, h, List.map_append]
  simp [List.append_assoc]

set_option maxRecDepth 100000 in
set_option maxHeartbeats 1000000 in
theorem rcalls_spec {va vo : Value} (l : List Ev) (vs : List Sv) (ops : List (List Op)) (hn : l.length ≤ 65536) (hm : ops.length ≤ 65536) (hO : ∀ o ∈ ops, o.length ≤ 65536) : Con Try.prog 12 [va, vo] (fun w => RdV w va Ev.enc l ∧ RR w vo vs ops) [] (fun v : Value => v) (fun _ => True) (fun v => [rowE v 47 Ca.enc (if (chk ops l).isSome = true then callsOf ops l l.length else [])]) := by
  intro w hE hH
  obtain ⟨hl, hvo, hvl, hin⟩ := hE
  refine enter (n := 81) (vs := [va, vo]) (St w [] []) Try.func12 rfl rfl rfl (St.init hH) ?_
  refine c_seq ?_
  refine c_region _ rfl ?_
  refine l_q rfl (q_assign rfl rfl) rfl rfl ?_
  refine l_nil ?_
  refine k_then ?_
  refine c_seq ?_
  refine c_region _ rfl ?_
  refine l_q rfl (q_assign rfl rfl) rfl rfl ?_
  refine l_nil ?_
  refine k_then ?_
  refine c_seq ?_
  refine c_seq ?_
  refine c_region _ rfl ?_
  refine l_q rfl (q_move rfl rfl) rfl rfl ?_
  refine l_q rfl (q_move rfl rfl) rfl rfl ?_
  refine row0 47 Ca.enc none ?_
  refine l_e rfl ?_
  refine e_call_00 (rchk_spec l vs ops hn hm hO) rfl rfl rfl Try.call14 rfl (fun _ h => ⟨hl.keep h (by simp [dom]), ⟨hvo.keep h (by simp [dom]), hvl, fun i s o h1 h2 => (hin i s o h1 h2).keep h (by simp [dom])⟩⟩) ?_
  intro _ _
  refine l_q rfl (q_not rfl rfl) rfl rfl ?_
  refine l_nil ?_
  refine k_then ?_
  refine Pre.caseB 12 rfl (fun h0 => ?_) (fun h0 => ?_)
  · try simp only [Bool.not_eq_true', Bool.not_eq_false'] at h0
    refine c_true rfl ?_
    refine c_seq ?_
    refine c_region _ rfl ?_
    refine l_q rfl (q_move rfl rfl) rfl rfl ?_
    refine l_q rfl (q_assign rfl rfl) rfl rfl ?_
    refine l_nil ?_
    refine k_then ?_
    refine c_ret ?_
    refine k_then_ret ?_
    refine r_one rfl rfl ?_
    exact fun _ h => ⟨_, rfl, trivial, by rw [h0]; exact h⟩
  · try simp only [Bool.not_eq_true', Bool.not_eq_false'] at h0
    refine c_false rfl ?_
    refine c_skip ?_
    refine k_then ?_
    refine c_seq ?_
    refine c_seq ?_
    refine c_region _ rfl ?_
    refine l_q rfl (q_assign rfl rfl) rfl rfl ?_
    refine l_nil ?_
    refine k_then ?_
    refine c_block ?_
    refine c_loop2 (fun (i : Nat) (v : Value) => [(0, va), (1, vo), (5, v), (6, .int .i64 (i : Int))]) (fun (i : Nat) (v : Value) => St w [] [rowE v 47 Ca.enc (callsOf ops l i)]) (fun (i : Nat) (v : Value) => i ≤ l.length) (fun (i : Nat) (v : Value) => l.length - i) (0) (.slice none 0 0) (Nat.zero_le _) (Sub.cons rfl (Sub.cons rfl (Sub.cons rfl (Sub.cons rfl (Sub.nil))))) (fun _ h => h) ?_
    intro i v hi
    refine c_seq ?_
    refine c_seq ?_
    have hcl := calls_len ops l i
    refine c_region _ rfl ?_
    refine l_q rfl (q_move rfl rfl) rfl rfl ?_
    refine l_q rfl (q_move rfl rfl) rfl rfl ?_
    refine l_q rfl (q_lenV rfl Try.underlying26 rfl (fun _ h => hl.keep h (by simp [dom]))) rfl rfl ?_
    refine l_q rfl (q_lss rfl rfl rfl) rfl rfl ?_
    refine l_nil ?_
    refine k_then ?_
    refine Pre.caseB 17 rfl (fun h1 => ?_) (fun h1 => ?_)
    · try simp only [decide_eq_true_eq, decide_eq_false_iff_not, Bool.not_eq_true', Bool.not_eq_false'] at h1
      obtain ⟨x, hx⟩ : ∃ x, l[i]? = some x := ⟨_, List.getElem?_eq_getElem (by omega)⟩
      have hcs := calls_succ (ops := ops) hx
      obtain ⟨c, k, lo, o, hc, hxk, hlo, ho, hop⟩ := chk_at h0 hx
      have hclt := (List.getElem?_eq_some_iff.1 hlo).1
      have hklt := (List.getElem?_eq_some_iff.1 ho).1
      obtain ⟨s, hs⟩ : ∃ s, vs[c]? = some s := ⟨_, List.getElem?_eq_getElem (by omega)⟩
      have hrd := hin c s lo hs hlo
      have hi6 : i ≤ 65536 := by omega
      refine c_true rfl ?_
      refine c_skip ?_
      refine k_then ?_
      refine c_seq ?_
      refine c_block ?_
      refine c_seq ?_
      refine c_region _ rfl ?_
      refine l_q rfl (q_move rfl rfl) rfl rfl ?_
      refine l_q rfl (q_move rfl rfl) rfl rfl ?_
      refine l_q rfl (q_indexV i rfl Try.underlying26 Try.sizeOf52 rfl (fun _ h => hl.keep h (by simp [dom])) rfl rfl (by omega)) rfl rfl ?_
      refine l_q rfl (q_loadVAgg i rfl Try.isAgg52 Try.sizeOf52 rfl rfl (fun _ h => hl.keep h (by simp [dom])) hx) rfl rfl ?_
      refine l_e rfl ?_
      refine e_alloc rfl rfl rfl Try.zeroValue52 ?_
      intro be
      refine l_e rfl ?_
      refine e_storeAgg rfl rfl Try.sizeOf52 rfl rfl (Ev.c_len _) (Ev.one _) (by show 0 + (Ev.c x).length ≤ 22; rw [Ev.c_len]; decide) ?_
      refine cells_eq (show Sep.splice _ 0 x.c = x.c from Sep.splice_all (by rw [Ev.c_len]; rfl)) ?_
      refine l_nil ?_
      refine k_then ?_
      refine c_seq ?_
      refine c_seq ?_
      refine c_region _ rfl ?_
      refine l_q rfl (q_fieldAddr rfl Try.underlying52 rfl Try.sizeOf4 rfl rfl) rfl rfl ?_
      refine l_q rfl (q_loadC rfl Try.isAgg4 rfl (fun _ h => h.at 0 rfl) rfl) rfl rfl ?_
      refine l_q rfl (q_not rfl rfl) rfl rfl ?_
      refine l_nil ?_
      refine k_then ?_
      refine bool_cases (b := x.done) (fun hd => ?_) (fun hd => ?_)
      · have hcd : callsOf ops l (i + 1) = (callsOf ops l i).map (ansC i x) := by rw [hcs]; unfold callS; rw [if_pos hd]
        refine Pre.setB (t := 26) (c := false) rfl (by rw [hd]; rfl) ?_
        refine c_false rfl ?_
        refine c_skip ?_
        refine k_then ?_
        refine c_seq ?_
        refine c_region _ rfl ?_
        refine l_q rfl (q_assign rfl rfl) rfl rfl ?_
        refine l_nil ?_
        refine k_then ?_
        refine c_block ?_
        refine pull1 ?_
        refine c_loop2 (fun (j : Nat) (v : Value) => [(0, va), (1, vo), (5, v), (6, .int .i64 (i : Int)), (7, .pointer (some ⟨be, 0, none⟩)), (8, .int .i64 (j : Int))]) (fun (j : Nat) (v : Value) => St w [] [rowE v 47 Ca.enc (((callsOf ops l i).take j).map (ansC i x) ++ (callsOf ops l i).drop j), cellsE be 52 x.c]) (fun (j : Nat) (v : Value) => j ≤ (callsOf ops l i).length) (fun (j : Nat) (v : Value) => (callsOf ops l i).length - j) (0) (v) (Nat.zero_le _) (Sub.cons rfl (Sub.cons rfl (Sub.cons rfl (Sub.cons rfl (Sub.cons rfl (Sub.cons rfl (Sub.nil))))))) (fun _ h => h) ?_
        intro j v hj
        refine c_seq ?_
        refine c_seq ?_
        have hll : (((callsOf ops l i).take j).map (ansC i x) ++ (callsOf ops l i).drop j).length = (callsOf ops l i).length := by rw [List.length_append, List.length_map, List.length_take, List.length_drop]; omega
        refine c_region _ rfl ?_
        refine l_q rfl (q_move rfl rfl) rfl rfl ?_
        refine l_q rfl (q_move rfl rfl) rfl rfl ?_
        refine l_q rfl (q_lenV rfl Try.underlying28 rfl (fun _ h => h.rd 0 rfl)) rfl rfl ?_
        refine l_q rfl (q_lss rfl rfl rfl) rfl rfl ?_
        refine l_nil ?_
        refine k_then ?_
        refine Pre.caseB 48 rfl (fun h2 => ?_) (fun h2 => ?_)
        · try simp only [decide_eq_true_eq, decide_eq_false_iff_not, Bool.not_eq_true', Bool.not_eq_false'] at h2
          obtain ⟨y, hyo⟩ : ∃ y, (callsOf ops l i)[j]? = some y := ⟨_, List.getElem?_eq_getElem (by omega)⟩
          have hy : (((callsOf ops l i).take j).map (ansC i x) ++ (callsOf ops l i).drop j)[j]? = some y := by rw [List.getElem?_append_right (by rw [List.length_map, List.length_take]; omega), List.length_map, List.length_take, List.getElem?_drop]; rw [show j + (j - min j (callsOf ops l i).length) = j from by omega]; exact hyo
          have hstep : ((callsOf ops l i).take (j + 1)).map (ansC i x) ++ (callsOf ops l i).drop (j + 1) = (((callsOf ops l i).take j).map (ansC i x) ++ (callsOf ops l i).drop j).set j (ansC i x y) := by rw [← ans_step hyo]
          refine c_true rfl ?_
          refine c_skip ?_
          refine k_then ?_
          refine c_seq ?_
          refine c_block ?_
          refine c_seq ?_
          refine c_draw [(0, some true), (1, some true), (2, some true), (3, some true), (4, some true), (5, some true), (6, some true), (7, some true), (8, some true), (9, some true), (10, some true), (11, some true), (12, some true), (13, some true), (14, some true), (15, some true), (16, some true), (17, some true)] [] [(_, some true), (_, some true), (_, some true), (_, some true), (_, some true), (_, some true), (_, some true), (_, some true), (_, some true), (_, some true), (_, some true), (_, some true), (_, some true), (_, some true), (_, some true), (_, some true), (_, some true), (_, some true)] _ (blind_then (blind_block (blind_then (blind_then (blind_block (blind_block (blind_then (blind_then (blind_block (blind_then blind_body)))))))))) rfl (by kernel_rfl) (by kernel_rfl) rfl rfl rfl (by kernel_rfl) St.drawn (fun _ h => h) ?_
          refine d_q rfl (q_move rfl rfl) rfl rfl ?_
          refine d_q rfl (q_move rfl rfl) rfl rfl ?_
          refine d_q rfl (q_indexV j rfl Try.underlying28 Try.sizeOf47 rfl (fun _ h => h.rd 0 rfl) rfl rfl (by omega)) rfl rfl ?_
          refine d_q rfl (q_fieldAddr rfl Try.underlying47 rfl Try.sizeOf3 rfl rfl) rfl rfl ?_
          refine d_q rfl (q_loadV j 0 rfl Try.isAgg3 rfl rfl (fun _ h => h.rd 0 rfl) hy rfl) rfl rfl ?_
          refine d_q rfl (q_fieldAddr rfl Try.underlying52 rfl Try.sizeOf3 rfl rfl) rfl rfl ?_
          refine d_q rfl (q_loadC rfl Try.isAgg3 rfl (fun _ h => h.at 1 rfl) rfl) rfl rfl ?_
          refine d_q rfl (q_eql rfl rfl rfl) rfl rfl ?_
          refine d_q rfl (q_move rfl rfl) rfl rfl ?_
          refine Pre.caseB 59 rfl (fun h3 => ?_) (fun h3 => ?_)
          · try simp only [decide_eq_true_eq, decide_eq_false_iff_not, Bool.not_eq_true', Bool.not_eq_false'] at h3
            refine d_q rfl (q_move rfl rfl) rfl rfl ?_
            refine d_q rfl (q_move rfl rfl) rfl rfl ?_
            refine d_q rfl (q_indexV j rfl Try.underlying28 Try.sizeOf47 rfl (fun _ h => h.rd 0 rfl) rfl rfl (by omega)) rfl rfl ?_
            refine d_q rfl (q_fieldAddr rfl Try.underlying47 rfl Try.sizeOf3 rfl rfl) rfl rfl ?_
            refine d_q rfl (q_loadV j 1 rfl Try.isAgg3 rfl rfl (fun _ h => h.rd 0 rfl) hy rfl) rfl rfl ?_
            refine d_q rfl (q_fieldAddr rfl Try.underlying52 rfl Try.sizeOf3 rfl rfl) rfl rfl ?_
            refine d_q rfl (q_loadC rfl Try.isAgg3 rfl (fun _ h => h.at 1 rfl) rfl) rfl rfl ?_
            refine d_q rfl (q_eql rfl rfl rfl) rfl rfl ?_
            refine d_q rfl (q_pick_t rfl rfl rfl) rfl rfl ?_
            refine d_nil ?_
            refine k_then ?_
            refine Pre.caseB 68 rfl (fun h4 => ?_) (fun h4 => ?_)
            · try simp only [decide_eq_true_eq, decide_eq_false_iff_not, Bool.not_eq_true', Bool.not_eq_false'] at h4
              have hans : ansC i x y = { toC y i hi6 with a := x.a } := by unfold ansC; rw [if_pos ⟨h3, h4⟩, dif_pos hi6]
              have hls : ((((callsOf ops l i).take j).map (ansC i x) ++ (callsOf ops l i).drop j).set j (toC y i hi6)).length = (((callsOf ops l i).take j).map (ansC i x) ++ (callsOf ops l i).drop j).length := List.length_set
              refine c_true rfl ?_
              refine c_seq ?_
              refine c_region _ rfl ?_
              refine l_q rfl (q_move rfl rfl) rfl rfl ?_
              refine l_q rfl (q_move rfl rfl) rfl rfl ?_
              refine l_q rfl (q_move rfl rfl) rfl rfl ?_
              refine l_q rfl (q_indexV j rfl Try.underlying28 Try.sizeOf47 rfl (fun _ h => h.rd 0 rfl) rfl rfl (by omega)) rfl rfl ?_
              refine l_q rfl (q_fieldAddr rfl Try.underlying47 rfl Try.sizeOf3 rfl rfl) rfl rfl ?_
              refine l_e rfl ?_
              refine e_storeV j 7 ((toC y i hi6)) rfl rfl Try.sizeOf3 rfl rfl rfl hy (by decide) (set_to y i hi6) ?_
              refine l_nil ?_
              refine k_then ?_
              refine c_region _ rfl ?_
              refine l_q rfl (q_move rfl rfl) rfl rfl ?_
              refine l_q rfl (q_move rfl rfl) rfl rfl ?_
              refine l_q rfl (q_fieldAddr rfl Try.underlying52 rfl Try.sizeOf45 rfl rfl) rfl rfl ?_
              refine l_q rfl (q_loadCAgg (x.a.c) rfl Try.isAgg45 Try.sizeOf45 rfl (fun _ h => h.at 1 rfl) (Ev.a_part _) (An.c_len _)) rfl rfl ?_
              refine l_q rfl (q_indexV j rfl Try.underlying28 Try.sizeOf47 rfl (fun _ h => h.rd 0 rfl) rfl rfl (by omega)) rfl rfl ?_
              refine l_q rfl (q_fieldAddr rfl Try.underlying47 rfl Try.sizeOf45 rfl rfl) rfl rfl ?_
              have hy2 : ((((callsOf ops l i).take j).map (ansC i x) ++ (callsOf ops l i).drop j).set j (toC y i hi6))[j]? = some (toC y i hi6) := List.getElem?_set_self (by omega)
              refine l_e rfl ?_
              refine e_storeVPart j 8 ({ toC y i hi6 with a := x.a } : Ca) rfl rfl Try.sizeOf45 rfl rfl rfl hy2 (An.c_len _) (by decide) (An.one _) (set_an _ _) ?_
              refine row_eq (List.set_set ..) ?_
              refine l_nil ?_
              refine k_block ?_
              refine k_then ?_
              refine c_region _ rfl ?_
              refine l_q rfl (q_move rfl rfl) rfl rfl ?_
              refine l_q rfl (q_inc rfl rfl rfl (by omega)) rfl rfl ?_
              refine l_q rfl (q_assign rfl rfl) rfl rfl ?_
              refine l_nil ?_
              rw [hans] at hstep
              refine pull1 ?_
              refine pull1 ?_
              exact k_round ((j + 1, v)) (by dsimp only; omega) (by dsimp only; omega) (Sub.cons rfl (Sub.cons rfl (Sub.cons rfl (Sub.cons rfl (Sub.cons rfl (Sub.cons rfl (Sub.nil))))))) (fun _ h => by dsimp only; rw [hstep]; exact h)
            · try simp only [decide_eq_true_eq, decide_eq_false_iff_not, Bool.not_eq_true', Bool.not_eq_false'] at h4
              have hans : ansC i x y = y := by unfold ansC; rw [if_neg (fun e => h4 e.2)]
              rw [hans, set_same hy] at hstep
              refine c_false rfl ?_
              refine c_skip ?_
              refine k_block ?_
              refine k_then ?_
              refine c_region _ rfl ?_
              refine l_q rfl (q_move rfl rfl) rfl rfl ?_
              refine l_q rfl (q_inc rfl rfl rfl (by omega)) rfl rfl ?_
              refine l_q rfl (q_assign rfl rfl) rfl rfl ?_
              refine l_nil ?_
              refine pull1 ?_
              refine pull1 ?_
              exact k_round ((j + 1, v)) (by dsimp only; omega) (by dsimp only; omega) (Sub.cons rfl (Sub.cons rfl (Sub.cons rfl (Sub.cons rfl (Sub.cons rfl (Sub.cons rfl (Sub.nil))))))) (fun _ h => by dsimp only; rw [hstep]; exact h)
          · try simp only [decide_eq_true_eq, decide_eq_false_iff_not, Bool.not_eq_true', Bool.not_eq_false'] at h3
            have hans : ansC i x y = y := by unfold ansC; rw [if_neg (fun e => h3 e.1)]
            rw [hans, set_same hy] at hstep
            refine d_not rfl rfl rfl ?_
            refine d_not rfl rfl rfl ?_
            refine d_not rfl rfl rfl ?_
            refine d_not rfl rfl rfl ?_
            refine d_not rfl rfl rfl ?_
            refine d_not rfl rfl rfl ?_
            refine d_not rfl rfl rfl ?_
            refine d_not rfl rfl rfl ?_
            refine d_q rfl (q_pick_f rfl rfl rfl) rfl rfl ?_
            refine d_nil ?_
            refine k_then ?_
            refine c_false rfl ?_
            refine c_skip ?_
            refine k_block ?_
            refine k_then ?_
            refine c_region _ rfl ?_
            refine l_q rfl (q_move rfl rfl) rfl rfl ?_
            refine l_q rfl (q_inc rfl rfl rfl (by omega)) rfl rfl ?_
            refine l_q rfl (q_assign rfl rfl) rfl rfl ?_
            refine l_nil ?_
            refine pull1 ?_
            refine pull1 ?_
            exact k_round ((j + 1, v)) (by dsimp only; omega) (by dsimp only; omega) (Sub.cons rfl (Sub.cons rfl (Sub.cons rfl (Sub.cons rfl (Sub.cons rfl (Sub.cons rfl (Sub.nil))))))) (fun _ h => by dsimp only; rw [hstep]; exact h)
        · try simp only [decide_eq_true_eq, decide_eq_false_iff_not, Bool.not_eq_true', Bool.not_eq_false'] at h2
          have hje : j = (callsOf ops l i).length := by omega
          have hfin : ((callsOf ops l i).take j).map (ansC i x) ++ (callsOf ops l i).drop j = callsOf ops l (i + 1) := by rw [hcd, hje, List.take_length, List.drop_length, List.append_nil]
          refine c_false rfl ?_
          refine c_exit ?_
          refine k_then_exit ?_
          refine k_then_exit ?_
          refine k_block_exit ?_
          refine k_block ?_
          refine k_then ?_
          refine c_region _ rfl ?_
          refine l_q rfl (q_move rfl rfl) rfl rfl ?_
          refine l_q rfl (q_inc rfl rfl rfl (by omega)) rfl rfl ?_
          refine l_q rfl (q_assign rfl rfl) rfl rfl ?_
          refine l_nil ?_
          refine pull1 ?_
          refine drop0 ?_
          exact k_round ((i + 1, v)) (by dsimp only; omega) (by dsimp only; omega) (Sub.cons rfl (Sub.cons rfl (Sub.cons rfl (Sub.cons rfl (Sub.nil))))) (fun _ h => by dsimp only; rw [← hfin]; exact h)
      · have hcd : callsOf ops l i ++ [mkC x o i hi6] = callsOf ops l (i + 1) := by rw [hcs]; unfold callS newC; rw [if_neg (by rw [hd]; decide), dif_pos hi6, hop]
        refine Pre.setB (t := 26) (c := true) rfl (by rw [hd]; rfl) ?_
        refine c_true rfl ?_
        refine c_seq ?_
        refine c_draw [(0, some true), (1, some true), (2, some true), (3, some true), (4, some true), (5, some true), (6, some true), (7, some true), (8, some true), (9, some true), (10, some true), (11, some true), (12, some true), (13, some true), (14, some true), (15, some true), (16, some false), (17, some false), (18, some true)] [] [(_, some true), (_, some true), (_, some true), (_, some true), (_, some true), (_, some true), (_, some true), (_, some true), (_, some true), (_, some true), (_, some true), (_, some true), (_, some true), (_, some true), (_, some true), (_, some true), (_, some false), (_, some false), (_, some true)] (fun w2 => RdV w2 vo encSv vs ∧ RdV w2 s.v Op.enc lo ∧ (cellsE be 52 x.c).at w2) (blind_then (blind_then (blind_block (blind_then (blind_then (blind_block (blind_then blind_body))))))) rfl (by kernel_rfl) (by kernel_rfl) rfl rfl rfl (by kernel_rfl) St.drawn (fun _ h => ⟨hvo.keep h (by simp [dom]), hrd.keep h (by simp [dom]), h.at 0 rfl⟩) ?_
        refine d_q rfl (q_move rfl rfl) rfl rfl ?_
        refine d_q rfl (q_fieldAddr rfl Try.underlying52 rfl Try.sizeOf3 rfl rfl) rfl rfl ?_
        refine d_q rfl (q_loadC rfl Try.isAgg3 rfl (fun _ h => h.2.2) rfl) rfl rfl ?_
        refine d_q rfl (q_fieldAddr rfl Try.underlying52 rfl Try.sizeOf3 rfl rfl) rfl rfl ?_
        refine d_q rfl (q_loadC rfl Try.isAgg3 rfl (fun _ h => h.2.2) rfl) rfl rfl ?_
        refine d_q rfl (q_move rfl rfl) rfl rfl ?_
        refine d_q rfl (q_fieldAddr rfl Try.underlying52 rfl Try.sizeOf3 rfl rfl) rfl rfl ?_
        refine d_q rfl (q_loadC rfl Try.isAgg3 rfl (fun _ h => h.2.2) rfl) rfl rfl ?_
        refine d_q rfl (q_indexV c rfl Try.underlying23 Try.sizeOf38 rfl (fun _ h => h.1) rfl hc (by omega)) rfl rfl ?_
        refine d_q rfl (q_loadV c 0 rfl Try.isAgg38 rfl rfl (fun _ h => h.1) hs rfl) rfl rfl ?_
        refine d_q rfl (q_fieldAddr rfl Try.underlying52 rfl Try.sizeOf3 rfl rfl) rfl rfl ?_
        refine d_q rfl (q_loadC rfl Try.isAgg3 rfl (fun _ h => h.2.2) rfl) rfl rfl ?_
        refine d_q rfl (q_indexV k rfl Try.underlying38 Try.sizeOf37 rfl (fun _ h => h.2.1) rfl hxk (by omega)) rfl rfl ?_
        refine d_q rfl (q_loadVAgg k rfl Try.isAgg37 Try.sizeOf37 rfl rfl (fun _ h => h.2.1) ho) rfl rfl ?_
        refine d_q rfl (q_move rfl rfl) rfl rfl ?_
        refine d_q rfl (q_build ((mkC x o i hi6).c) rfl rfl (fun w => by kernel_rfl)) rfl rfl ?_
        refine d_e rfl ?_
        refine e_buildSliceV (sz := 27) [.tmp 42] rfl rfl rfl rfl rfl Try.underlying28 Try.sizeOf47 rfl Try.zeroValue47 (by simp [Value.cells, Ca.c_len]) ?_
        intro b3
        refine d_held (fun _ h => ⟨hvo.keep h (by simp [dom]), hrd.keep h (by simp [dom]), h.at 1 rfl⟩) ?_
        refine pull2 ?_
        refine d_e rfl ?_
        refine e_append rfl rfl rfl Try.underlying28 Try.underlying28 info47 rfl rfl rfl rfl rfl (fun _ h => lit_rd (h.at 1 rfl) Ca.enc [(mkC x o i hi6)] rfl rfl) (by simp only [byt47, List.length_append, List.length_cons, List.length_nil]; omega) (by simp only [List.length_append, List.length_cons, List.length_nil]; omega) ?_
        intro v2
        refine row_eq (hcd) ?_
        refine pull1 ?_
        refine drop0 ?_
        refine d_held (fun _ h => ⟨hvo.keep h (by simp [dom]), hrd.keep h (by simp [dom]), h.at 1 rfl⟩) ?_
        refine d_q rfl (q_assign rfl rfl) rfl rfl ?_
        refine d_nil ?_
        refine k_then ?_
        refine c_exit ?_
        refine k_then_exit ?_
        refine k_block_exit ?_
        refine k_then ?_
        refine c_region _ rfl ?_
        refine l_q rfl (q_move rfl rfl) rfl rfl ?_
        refine l_q rfl (q_inc rfl rfl rfl (by omega)) rfl rfl ?_
        refine l_q rfl (q_assign rfl rfl) rfl rfl ?_
        refine l_nil ?_
        refine pull1 ?_
        refine drop0 ?_
        exact k_round ((i + 1, v2)) (by dsimp only; omega) (by dsimp only; omega) (Sub.cons rfl (Sub.cons rfl (Sub.cons rfl (Sub.cons rfl (Sub.nil))))) (fun _ h => h)
    · try simp only [decide_eq_true_eq, decide_eq_false_iff_not, Bool.not_eq_true', Bool.not_eq_false'] at h1
      have hie : i = l.length := by omega
      subst hie
      refine c_false rfl ?_
      refine c_exit ?_
      refine k_then_exit ?_
      refine k_then_exit ?_
      refine k_block_exit ?_
      refine k_then ?_
      refine c_seq ?_
      refine c_region _ rfl ?_
      refine l_q rfl (q_move rfl rfl) rfl rfl ?_
      refine l_q rfl (q_assign rfl rfl) rfl rfl ?_
      refine l_nil ?_
      refine k_then ?_
      refine c_ret ?_
      refine r_one rfl rfl ?_
      exact fun _ h => ⟨v, rfl, trivial, by rw [if_pos h0]; exact h⟩
end Go.Proofs.Ythfdmeikpbkpaaa
