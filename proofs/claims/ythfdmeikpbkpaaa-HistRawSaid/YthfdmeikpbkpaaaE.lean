/- histories: Check -/
import Derived.Test.YthfdmeikpbkpaaaD
set_option linter.unusedVariables false
set_option linter.unusedSimpArgs false
namespace Go.Proofs.Ythfdmeikpbkpaaa
open Go.Sep Go.RowKit

/-- A slice's value, as a cell. -/
structure Sv where
  a : Option Addr
  n : Nat
  c : Nat
abbrev Sv.v (s : Sv) : Value := .slice s.a s.n s.c
def encSv : Enc Sv := ⟨1, fun s => [.slice s.a s.n s.c], fun _ => rfl, fun a u h => by simp at h; subst h; rfl, by decide⟩
/-- Rows of rows. -/
def RR (w : World) (v : Value) (vs : List Sv) (ops : List (List Op)) : Prop := RdV w v encSv vs ∧ vs.length = ops.length ∧ ∀ (i : Nat) (s : Sv) (o : List Op), vs[i]? = some s → ops[i]? = some o → RdV w s.v Op.enc o
theorem bool_cases {b : Bool} {Q : Prop} (h1 : b = true → Q) (h2 : b = false → Q) : Q := by cases b; exact h2 rfl; exact h1 rfl
def an0 : An := ⟨0, false, kv0 16, by decide⟩
/-- May the event come next, of a client who has done so many, and has one under way or not? -/
def okB (l : List Op) (p : Nat × Bool) (e : Ev) : Bool := decide (e.index = (p.1 : Int)) && (e.done == p.2) && (match l[p.1]? with | some o => kndB o && (if e.done = true then mayB o e.a else decide (e.a = an0)) | none => false)
def nxt (p : Nat × Bool) (e : Ev) : Nat × Bool := if e.done = true then (p.1 + 1, false) else (p.1, true)
def stp (ops : List (List Op)) (st : List (Nat × Bool)) (e : Ev) : Option (List (Nat × Bool)) :=
  if 0 ≤ e.client ∧ e.client < (ops.length : Int) then (if okB (ops.getD e.client.toNat []) (st.getD e.client.toNat (0, false)) e = true then some (st.set e.client.toNat (nxt (st.getD e.client.toNat (0, false)) e)) else none) else none
def chk (ops : List (List Op)) (l : List Ev) : Option (List (Nat × Bool)) := l.foldl (fun s e => s.bind (fun st => stp ops st e)) (some (List.replicate ops.length (0, false)))
theorem chk_zero (ops : List (List Op)) (l : List Ev) : chk ops (l.take 0) = some (List.replicate ops.length (0, false)) := rfl
theorem chk_snoc {ops : List (List Op)} {l : List Ev} {i : Nat} {x : Ev} {st : List (Nat × Bool)} (h : l[i]? = some x) (hs : chk ops (l.take i) = some st) : chk ops (l.take (i + 1)) = stp ops st x := by
  unfold chk at hs ⊢; rw [List.take_add_one, h, List.foldl_append, hs]; rfl
theorem chk_dead (ops : List (List Op)) : ∀ l : List Ev, l.foldl (fun s e => s.bind (fun st => stp ops st e)) none = none
  | [] => rfl
  | _ :: l => chk_dead ops l
theorem chk_none {ops : List (List Op)} {l : List Ev} {i : Nat} (h : chk ops (l.take i) = none) : (chk ops l).isSome = false := by
  have e : l = l.take i ++ l.drop i := (List.take_append_drop i l).symm
  unfold chk at h ⊢
  rw [e, List.foldl_append, h, chk_dead]; rfl
theorem stp_out {ops : List (List Op)} {st : List (Nat × Bool)} {e : Ev} (h : ¬ (0 ≤ e.client ∧ e.client < (ops.length : Int))) : stp ops st e = none := by unfold stp; rw [if_neg h]
theorem stp_at {ops : List (List Op)} {st : List (Nat × Bool)} {e : Ev} {c : Nat} {l : List Op} {p : Nat × Bool} (hc : e.client = (c : Int)) (hl : ops[c]? = some l) (hp : st[c]? = some p) : stp ops st e = if okB l p e = true then some (st.set c (nxt p e)) else none := by
  have hlt := (List.getElem?_eq_some_iff.1 hl).1
  unfold stp
  rw [if_pos (by omega), hc, Int.toNat_natCast, List.getD_eq_getElem?_getD, List.getD_eq_getElem?_getD, hl, hp]; rfl
theorem stp_bad {ops : List (List Op)} {st : List (Nat × Bool)} {e : Ev} {c : Nat} {l : List Op} {p : Nat × Bool} (hc : e.client = (c : Int)) (hl : ops[c]? = some l) (hp : st[c]? = some p) (h : okB l p e = false) : stp ops st e = none := by
  rw [stp_at hc hl hp, h]; rfl
theorem stp_ok {ops : List (List Op)} {st : List (Nat × Bool)} {e : Ev} {c : Nat} {l : List Op} {p : Nat × Bool} (hc : e.client = (c : Int)) (hl : ops[c]? = some l) (hp : st[c]? = some p) (h : okB l p e = true) : stp ops st e = some (st.set c (nxt p e)) := by
  rw [stp_at hc hl hp, if_pos h]
theorem stp_len {ops : List (List Op)} {st st' : List (Nat × Bool)} {e : Ev} (h : stp ops st e = some st') : st'.length = st.length := by
  unfold stp at h
  split at h
  · split at h
    · cases h; exact List.length_set
    · cases h
  · cases h
def begL (st : List (Nat × Bool)) : List Int := st.map (fun p => ((p.1 + (if p.2 = true then 1 else 0) : Nat) : Int))
def donL (st : List (Nat × Bool)) : List Int := st.map (fun p => (p.1 : Int))
theorem begL_rep (n : Nat) : begL (List.replicate n (0, false)) = List.replicate n 0 := by simp [begL]
theorem donL_rep (n : Nat) : donL (List.replicate n (0, false)) = List.replicate n 0 := by simp [donL]
theorem begL_get {st : List (Nat × Bool)} {c : Nat} {p : Nat × Bool} (h : st[c]? = some p) : (begL st)[c]? = some ((p.1 + (if p.2 = true then 1 else 0) : Nat) : Int) := by simp [begL, h]
theorem donL_get {st : List (Nat × Bool)} {c : Nat} {p : Nat × Bool} (h : st[c]? = some p) : (donL st)[c]? = some (p.1 : Int) := by simp [donL, h]
theorem set_same {α : Type} {l : List α} {c : Nat} {x : α} (h : l[c]? = some x) : l.set c x = l := by
  refine List.ext_getElem? (fun j => ?_)
  rw [List.getElem?_set]
  split
  · rename_i hj; subst hj; have := (List.getElem?_eq_some_iff.1 h).1; rw [if_pos this, h]
  · rfl
def encZ : Enc (Nat × Bool) := ⟨2, fun p => [.int .i64 (p.1 : Int), .int .i64 (if p.2 = true then 1 else 0)], fun _ => rfl, fun a u h => by simp at h; rcases h with rfl | rfl <;> rfl, by decide⟩
set_option maxRecDepth 100000 in
set_option maxHeartbeats 1000000 in
theorem rchk_spec {va vo : Value} (l : List Ev) (vs : List Sv) (ops : List (List Op)) (hn : l.length ≤ 65536) (hm : ops.length ≤ 65536) (hO : ∀ o ∈ ops, o.length ≤ 65536) : Con Try.prog 14 [va, vo] (fun w => RdV w va Ev.enc l ∧ RR w vo vs ops) [] (fun _ : Unit => .bool (chk ops l).isSome) (fun _ => True) (fun _ => []) := by
  intro w hE hH
  obtain ⟨hl, hvo, hvl, hin⟩ := hE
  refine enter (n := 136) (vs := [va, vo]) (St w [] []) Try.func14 rfl rfl rfl (St.init hH) ?_
  refine c_seq ?_
  refine c_region _ rfl ?_
  refine l_q rfl (q_assign rfl rfl) rfl rfl ?_
  refine l_nil ?_
  refine k_then ?_
  refine c_seq ?_
  refine c_region _ rfl ?_
  refine l_q rfl (q_move rfl rfl) rfl rfl ?_
  refine l_q rfl (q_lenV rfl Try.underlying23 rfl (fun _ h => hvo.keep h (by simp [dom]))) rfl rfl ?_
  refine l_e rfl ?_
  refine e_makeSlice (encI .i64) 0 vs.length rfl rfl rfl Try.underlying22 info3 rfl rfl rfl rfl rfl rfl rfl (by simp only [byt3]; omega) (by omega) ?_
  intro vb
  refine l_q rfl (q_assign rfl rfl) rfl rfl ?_
  refine l_nil ?_
  refine k_then ?_
  refine c_seq ?_
  refine c_region _ rfl ?_
  refine l_q rfl (q_move rfl rfl) rfl rfl ?_
  refine l_q rfl (q_lenV rfl Try.underlying23 rfl (fun _ h => hvo.keep h (by simp [dom]))) rfl rfl ?_
  refine l_e rfl ?_
  refine e_makeSlice (encI .i64) 0 vs.length rfl rfl rfl Try.underlying22 info3 rfl rfl rfl rfl rfl rfl rfl (by simp only [byt3]; omega) (by omega) ?_
  intro vd
  refine l_q rfl (q_assign rfl rfl) rfl rfl ?_
  refine l_nil ?_
  refine k_then ?_
  refine c_seq ?_
  refine c_seq ?_
  refine c_region _ rfl ?_
  refine l_q rfl (q_assign rfl rfl) rfl rfl ?_
  refine l_nil ?_
  refine k_then ?_
  refine c_block ?_
  refine pull1 ?_
  refine c_loop2 (fun (i : Nat) (st : List (Nat × Bool)) => [(0, va), (1, vo), (5, vb), (6, vd), (7, .int .i64 (i : Int))]) (fun (i : Nat) (st : List (Nat × Bool)) => St w [] [rowE vb 3 (encI .i64) (begL st), rowE vd 3 (encI .i64) (donL st)]) (fun (i : Nat) (st : List (Nat × Bool)) => i ≤ l.length ∧ chk ops (l.take i) = some st ∧ st.length = ops.length) (fun (i : Nat) (st : List (Nat × Bool)) => l.length - i) (0) (List.replicate ops.length (0, false)) ⟨Nat.zero_le _, chk_zero ops l, List.length_replicate ..⟩ (Sub.cons rfl (Sub.cons rfl (Sub.cons rfl (Sub.cons rfl (Sub.cons rfl (Sub.nil)))))) (fun _ h => by rw [begL_rep, donL_rep, ← hvl]; exact h) ?_
  intro i st hp
  refine c_seq ?_
  refine c_seq ?_
  obtain ⟨hi, hck, hst⟩ := hp
  have hbl : (begL st).length = st.length := List.length_map ..
  have hdl : (donL st).length = st.length := List.length_map ..
  refine c_region _ rfl ?_
  refine l_q rfl (q_move rfl rfl) rfl rfl ?_
  refine l_q rfl (q_move rfl rfl) rfl rfl ?_
  refine l_q rfl (q_lenV rfl Try.underlying26 rfl (fun _ h => hl.keep h (by simp [dom]))) rfl rfl ?_
  refine l_q rfl (q_lss rfl rfl rfl) rfl rfl ?_
  refine l_nil ?_
  refine k_then ?_
  refine Pre.caseB 20 rfl (fun h1 => ?_) (fun h1 => ?_)
  · try simp only [decide_eq_true_eq, decide_eq_false_iff_not, Bool.not_eq_true', Bool.not_eq_false'] at h1
    obtain ⟨x, hx⟩ : ∃ x, l[i]? = some x := ⟨_, List.getElem?_eq_getElem (by omega)⟩
    have hsn := chk_snoc hx hck
    refine c_true rfl ?_
    refine c_skip ?_
    refine k_then ?_
    refine c_seq ?_
    refine c_block ?_
    refine c_seq ?_
    refine c_region _ rfl ?_
    refine l_q rfl (q_move rfl rfl) rfl rfl ?_
    refine l_q rfl (q_move rfl rfl) rfl rfl ?_
    refine l_q rfl (q_indexV i rfl Try.underlying26 Try.sizeOf52 rfl (fun _ h => hl.keep h (by simp [dom])) rfl rfl (by omega)) rfl rfl ?_
    refine l_q rfl (q_fieldAddr rfl Try.underlying52 rfl Try.sizeOf3 rfl rfl) rfl rfl ?_
    refine l_q rfl (q_loadV i 0 rfl Try.isAgg3 rfl rfl (fun _ h => hl.keep h (by simp [dom])) hx rfl) rfl rfl ?_
    refine l_q rfl (q_assign rfl rfl) rfl rfl ?_
    refine l_nil ?_
    refine k_then ?_
    refine c_seq ?_
    refine c_seq ?_
    refine c_region _ rfl ?_
    refine l_q rfl (q_move rfl rfl) rfl rfl ?_
    refine l_q rfl (q_lss rfl rfl rfl) rfl rfl ?_
    refine l_q rfl (q_move rfl rfl) rfl rfl ?_
    refine Pre.caseB 30 rfl (fun h2 => ?_) (fun h2 => ?_)
    · try simp only [decide_eq_true_eq, decide_eq_false_iff_not, Bool.not_eq_true', Bool.not_eq_false'] at h2
      have hno : stp ops st x = none := stp_out (by omega)
      refine l_not rfl rfl rfl ?_
      refine l_not rfl rfl rfl ?_
      refine l_not rfl rfl rfl ?_
      refine l_not rfl rfl rfl ?_
      refine l_q rfl (q_pick_t rfl rfl rfl) rfl rfl ?_
      refine l_nil ?_
      refine k_then ?_
      refine c_true rfl ?_
      refine c_seq ?_
      refine c_region _ rfl ?_
      refine l_q rfl (q_assign rfl rfl) rfl rfl ?_
      refine l_nil ?_
      refine k_then ?_
      refine c_ret ?_
      refine k_then_ret ?_
      refine k_block_ret ?_
      refine k_then_ret ?_
      refine k_then_ret ?_
      refine k_block_ret ?_
      refine k_then_ret ?_
      refine r_one rfl rfl ?_
      exact fun _ h => ⟨(), congrArg (fun z => Ending.returned (Value.bool z)) (chk_none (i := i + 1) (hsn.trans hno)).symm, trivial, h.nothing⟩
    · try simp only [decide_eq_true_eq, decide_eq_false_iff_not, Bool.not_eq_true', Bool.not_eq_false'] at h2
      refine l_q rfl (q_move rfl rfl) rfl rfl ?_
      refine l_q rfl (q_move rfl rfl) rfl rfl ?_
      refine l_q rfl (q_lenV rfl Try.underlying23 rfl (fun _ h => hvo.keep h (by simp [dom]))) rfl rfl ?_
      refine l_q rfl (q_geq rfl rfl rfl) rfl rfl ?_
      refine l_q rfl (q_pick_f rfl rfl rfl) rfl rfl ?_
      refine l_nil ?_
      refine k_then ?_
      refine Pre.caseB 35 rfl (fun h3 => ?_) (fun h3 => ?_)
      · try simp only [decide_eq_true_eq, decide_eq_false_iff_not, Bool.not_eq_true', Bool.not_eq_false'] at h3
        have hno : stp ops st x = none := stp_out (by omega)
        refine c_true rfl ?_
        refine c_seq ?_
        refine c_region _ rfl ?_
        refine l_q rfl (q_assign rfl rfl) rfl rfl ?_
        refine l_nil ?_
        refine k_then ?_
        refine c_ret ?_
        refine k_then_ret ?_
        refine k_block_ret ?_
        refine k_then_ret ?_
        refine k_then_ret ?_
        refine k_block_ret ?_
        refine k_then_ret ?_
        refine r_one rfl rfl ?_
        exact fun _ h => ⟨(), congrArg (fun z => Ending.returned (Value.bool z)) (chk_none (i := i + 1) (hsn.trans hno)).symm, trivial, h.nothing⟩
      · try simp only [decide_eq_true_eq, decide_eq_false_iff_not, Bool.not_eq_true', Bool.not_eq_false'] at h3
        obtain ⟨c, hc⟩ : ∃ c : Nat, x.client = (c : Int) := ⟨x.client.toNat, by omega⟩
        obtain ⟨s, hs⟩ : ∃ s, vs[c]? = some s := ⟨_, List.getElem?_eq_getElem (by omega)⟩
        obtain ⟨lo, hlo⟩ : ∃ o, ops[c]? = some o := ⟨_, List.getElem?_eq_getElem (by omega)⟩
        obtain ⟨⟨k, u⟩, hpk⟩ : ∃ p, st[c]? = some p := ⟨_, List.getElem?_eq_getElem (by omega)⟩
        have hbc := begL_get hpk
        have hdc := donL_get hpk
        have hrd := hin c s lo hs hlo
        have hlm := hO lo (List.mem_of_getElem? hlo)
        refine Pre.setV (t := 8) (c := .int .i64 (c : Int)) rfl (by rw [hc]) ?_
        refine bool_cases (b := x.done) (fun hd => ?_) (fun hd => ?_)
        · refine bool_cases (b := u) (fun hu => ?_) (fun hu => ?_)
          · subst hu
            have hbc2 : (begL st)[c]? = some (((k + 1 : Nat)) : Int) := hbc
            have hdc2 : (donL st)[c]? = some (k : Int) := hdc
            refine c_false rfl ?_
            refine c_skip ?_
            refine k_then ?_
            refine c_seq ?_
            refine c_region _ rfl ?_
            refine l_q rfl (q_move rfl rfl) rfl rfl ?_
            refine l_q rfl (q_move rfl rfl) rfl rfl ?_
            refine l_q rfl (q_indexV c rfl Try.underlying22 Try.sizeOf3 rfl (fun _ h => h.rd 0 rfl) rfl rfl (by omega)) rfl rfl ?_
            refine l_q rfl (q_loadV c 0 rfl Try.isAgg3 rfl rfl (fun _ h => h.rd 0 rfl) hbc2 rfl) rfl rfl ?_
            refine l_q rfl (q_assign rfl rfl) rfl rfl ?_
            refine l_nil ?_
            refine k_then ?_
            refine c_seq ?_
            refine c_seq ?_
            refine c_region _ rfl ?_
            refine l_q rfl (q_move rfl rfl) rfl rfl ?_
            refine l_q rfl (q_move rfl rfl) rfl rfl ?_
            refine l_q rfl (q_indexV i rfl Try.underlying26 Try.sizeOf52 rfl (fun _ h => hl.keep h (by simp [dom])) rfl rfl (by omega)) rfl rfl ?_
            refine l_q rfl (q_fieldAddr rfl Try.underlying52 rfl Try.sizeOf4 rfl rfl) rfl rfl ?_
            refine l_q rfl (q_loadV i 2 rfl Try.isAgg4 rfl rfl (fun _ h => hl.keep h (by simp [dom])) hx rfl) rfl rfl ?_
            refine l_nil ?_
            refine k_then ?_
            refine Pre.setB (t := 44) (c := true) rfl (hd) ?_
            refine c_true rfl ?_
            refine c_region _ rfl ?_
            refine l_q rfl (q_move rfl rfl) rfl rfl ?_
            refine l_q rfl (q_move rfl rfl) rfl rfl ?_
            refine l_q rfl (q_indexV c rfl Try.underlying22 Try.sizeOf3 rfl (fun _ h => h.rd 1 rfl) rfl rfl (by omega)) rfl rfl ?_
            refine l_q rfl (q_loadV c 0 rfl Try.isAgg3 rfl rfl (fun _ h => h.rd 1 rfl) hdc2 rfl) rfl rfl ?_
            refine l_q rfl (q_assign rfl rfl) rfl rfl ?_
            refine l_nil ?_
            refine k_then ?_
            refine c_seq ?_
            refine c_seq ?_
            refine c_region _ rfl ?_
            refine l_q rfl (q_move rfl rfl) rfl rfl ?_
            refine l_q rfl (q_move rfl rfl) rfl rfl ?_
            refine l_q rfl (q_indexV i rfl Try.underlying26 Try.sizeOf52 rfl (fun _ h => hl.keep h (by simp [dom])) rfl rfl (by omega)) rfl rfl ?_
            refine l_q rfl (q_fieldAddr rfl Try.underlying52 rfl Try.sizeOf3 rfl rfl) rfl rfl ?_
            refine l_q rfl (q_loadV i 1 rfl Try.isAgg3 rfl rfl (fun _ h => hl.keep h (by simp [dom])) hx rfl) rfl rfl ?_
            refine l_q rfl (q_move rfl rfl) rfl rfl ?_
            refine l_q rfl (q_neq rfl rfl rfl) rfl rfl ?_
            refine l_q rfl (q_move rfl rfl) rfl rfl ?_
            refine Pre.caseB 56 rfl (fun h5 => ?_) (fun h5 => ?_)
            · try simp only [decide_eq_true_eq, decide_eq_false_iff_not, Bool.not_eq_true', Bool.not_eq_false'] at h5
              have hno : stp ops st x = none := stp_bad hc hlo hpk (by unfold okB; simp [h5])
              refine l_not rfl rfl rfl ?_
              refine l_not rfl rfl rfl ?_
              refine l_not rfl rfl rfl ?_
              refine l_not rfl rfl rfl ?_
              refine l_not rfl rfl rfl ?_
              refine l_not rfl rfl rfl ?_
              refine l_not rfl rfl rfl ?_
              refine l_q rfl (q_pick_t rfl rfl rfl) rfl rfl ?_
              refine l_nil ?_
              refine k_then ?_
              refine c_true rfl ?_
              refine c_seq ?_
              refine c_region _ rfl ?_
              refine l_q rfl (q_assign rfl rfl) rfl rfl ?_
              refine l_nil ?_
              refine k_then ?_
              refine c_ret ?_
              refine k_then_ret ?_
              refine k_block_ret ?_
              refine k_then_ret ?_
              refine k_then_ret ?_
              refine k_block_ret ?_
              refine k_then_ret ?_
              refine r_one rfl rfl ?_
              exact fun _ h => ⟨(), congrArg (fun z => Ending.returned (Value.bool z)) (chk_none (i := i + 1) (hsn.trans hno)).symm, trivial, h.nothing⟩
            · try simp only [decide_eq_true_eq, decide_eq_false_iff_not, Bool.not_eq_true', Bool.not_eq_false'] at h5
              refine l_q rfl (q_move rfl rfl) rfl rfl ?_
              refine l_q rfl (q_move rfl rfl) rfl rfl ?_
              refine l_q rfl (q_move rfl rfl) rfl rfl ?_
              refine l_q rfl (q_indexV c rfl Try.underlying23 Try.sizeOf38 rfl (fun _ h => hvo.keep h (by simp [dom])) rfl rfl (by omega)) rfl rfl ?_
              refine l_q rfl (q_loadV c 0 rfl Try.isAgg38 rfl rfl (fun _ h => hvo.keep h (by simp [dom])) hs rfl) rfl rfl ?_
              refine l_q rfl (q_lenV rfl Try.underlying38 rfl (fun _ h => hrd.keep h (by simp [dom]))) rfl rfl ?_
              refine l_q rfl (q_geq rfl rfl rfl) rfl rfl ?_
              refine l_q rfl (q_pick_f rfl rfl rfl) rfl rfl ?_
              refine l_nil ?_
              refine k_then ?_
              refine Pre.caseB 64 rfl (fun h6 => ?_) (fun h6 => ?_)
              · try simp only [decide_eq_true_eq, decide_eq_false_iff_not, Bool.not_eq_true', Bool.not_eq_false'] at h6
                have hno : stp ops st x = none := stp_bad hc hlo hpk (by unfold okB; simp [show lo[k]? = none from List.getElem?_eq_none (by omega)])
                refine c_true rfl ?_
                refine c_seq ?_
                refine c_region _ rfl ?_
                refine l_q rfl (q_assign rfl rfl) rfl rfl ?_
                refine l_nil ?_
                refine k_then ?_
                refine c_ret ?_
                refine k_then_ret ?_
                refine k_block_ret ?_
                refine k_then_ret ?_
                refine k_then_ret ?_
                refine k_block_ret ?_
                refine k_then_ret ?_
                refine r_one rfl rfl ?_
                exact fun _ h => ⟨(), congrArg (fun z => Ending.returned (Value.bool z)) (chk_none (i := i + 1) (hsn.trans hno)).symm, trivial, h.nothing⟩
              · try simp only [decide_eq_true_eq, decide_eq_false_iff_not, Bool.not_eq_true', Bool.not_eq_false'] at h6
                obtain ⟨o, ho⟩ : ∃ o, lo[k]? = some o := ⟨_, List.getElem?_eq_getElem (by omega)⟩
                refine c_false rfl ?_
                refine c_skip ?_
                refine k_then ?_
                refine c_seq ?_
                refine c_region _ rfl ?_
                refine l_q rfl (q_move rfl rfl) rfl rfl ?_
                refine l_q rfl (q_move rfl rfl) rfl rfl ?_
                refine l_q rfl (q_indexV c rfl Try.underlying23 Try.sizeOf38 rfl (fun _ h => hvo.keep h (by simp [dom])) rfl rfl (by omega)) rfl rfl ?_
                refine l_q rfl (q_loadV c 0 rfl Try.isAgg38 rfl rfl (fun _ h => hvo.keep h (by simp [dom])) hs rfl) rfl rfl ?_
                refine l_q rfl (q_move rfl rfl) rfl rfl ?_
                refine l_q rfl (q_indexV k rfl Try.underlying38 Try.sizeOf37 rfl (fun _ h => hrd.keep h (by simp [dom])) rfl rfl (by omega)) rfl rfl ?_
                refine l_q rfl (q_loadVAgg k rfl Try.isAgg37 Try.sizeOf37 rfl rfl (fun _ h => hrd.keep h (by simp [dom])) ho) rfl rfl ?_
                refine l_e rfl ?_
                refine e_alloc rfl rfl rfl Try.zeroValue37 ?_
                intro bo
                refine l_e rfl ?_
                refine e_storeAgg rfl rfl Try.sizeOf37 rfl rfl (Op.c_len _) (Op.one _) (by show 0 + (Op.c o).length ≤ 4; rw [Op.c_len]; decide) ?_
                refine cells_eq (show Sep.splice _ 0 o.c = o.c from Sep.splice_all rfl) ?_
                refine l_nil ?_
                refine k_then ?_
                refine c_seq ?_
                refine c_seq ?_
                refine c_region _ rfl ?_
                refine l_q rfl (q_move rfl rfl) rfl rfl ?_
                refine l_q rfl (q_move rfl rfl) rfl rfl ?_
                refine l_q rfl (q_indexV i rfl Try.underlying26 Try.sizeOf52 rfl (fun _ h => hl.keep h (by simp [dom])) rfl rfl (by omega)) rfl rfl ?_
                refine l_q rfl (q_fieldAddr rfl Try.underlying52 rfl Try.sizeOf4 rfl rfl) rfl rfl ?_
                refine l_q rfl (q_loadV i 2 rfl Try.isAgg4 rfl rfl (fun _ h => hl.keep h (by simp [dom])) hx rfl) rfl rfl ?_
                refine l_nil ?_
                refine k_then ?_
                refine Pre.setB (t := 76) (c := true) rfl (hd) ?_
                refine c_true rfl ?_
                refine c_seq ?_
                refine c_seq ?_
                refine c_draw [(0, some true), (1, some true), (2, some true), (3, some true), (4, some true), (5, some true), (6, some true), (7, some true), (8, some true), (9, some true), (10, some true), (11, some true), (12, some true), (13, some true), (14, some true), (15, some true), (16, some false), (17, some true), (18, some true)] [] [(_, some true), (_, some true), (_, some true), (_, some true), (_, some true), (_, some true), (_, some true), (_, some true), (_, some true), (_, some true), (_, some true), (_, some true), (_, some true), (_, some true), (_, some true), (_, some true), (_, some false), (_, some true), (_, some true)] _ (blind_then (blind_then (blind_then (blind_block (blind_then (blind_then (blind_block (blind_then blind_body)))))))) rfl (by kernel_rfl) (by kernel_rfl) rfl rfl rfl (by kernel_rfl) St.drawn (fun _ h => h) ?_
                refine d_q rfl (q_move rfl rfl) rfl rfl ?_
                refine d_q rfl (q_move rfl rfl) rfl rfl ?_
                refine d_q rfl (q_indexV c rfl Try.underlying22 Try.sizeOf3 rfl (fun _ h => h.rd 2 rfl) rfl rfl (by omega)) rfl rfl ?_
                refine d_q rfl (q_loadV c 0 rfl Try.isAgg3 rfl rfl (fun _ h => h.rd 2 rfl) hdc2 rfl) rfl rfl ?_
                refine d_q rfl (q_move rfl rfl) rfl rfl ?_
                refine d_q rfl (q_move rfl rfl) rfl rfl ?_
                refine d_q rfl (q_indexV c rfl Try.underlying22 Try.sizeOf3 rfl (fun _ h => h.rd 1 rfl) rfl rfl (by omega)) rfl rfl ?_
                refine d_q rfl (q_loadV c 0 rfl Try.isAgg3 rfl rfl (fun _ h => h.rd 1 rfl) hbc2 rfl) rfl rfl ?_
                refine d_q rfl (q_geq rfl rfl rfl) rfl rfl ?_
                refine d_q rfl (q_move rfl rfl) rfl rfl ?_
                refine Pre.setB (t := 86) (c := false) rfl (by first | exact decide_eq_true (by omega) | exact decide_eq_false (by omega) | (simp; done) | (simp; omega)) ?_
                refine d_q rfl (q_loadCAgg (o.c) rfl Try.isAgg37 Try.sizeOf37 rfl (fun _ h => h.at 0 rfl) (rfl) (rfl)) rfl rfl ?_
                refine d_q rfl (q_move rfl rfl) rfl rfl ?_
                refine d_q rfl (q_move rfl rfl) rfl rfl ?_
                refine d_q rfl (q_indexV i rfl Try.underlying26 Try.sizeOf52 rfl (fun _ h => hl.keep h (by simp [dom])) rfl rfl (by omega)) rfl rfl ?_
                refine d_q rfl (q_fieldAddr rfl Try.underlying52 rfl Try.sizeOf45 rfl rfl) rfl rfl ?_
                refine d_q rfl (q_loadVPart i 3 rfl Try.isAgg45 Try.sizeOf45 rfl rfl (fun _ h => hl.keep h (by simp [dom])) hx (by decide)) rfl rfl ?_
                refine Pre.setV (t := 92) (c := .agg x.a.c.toArray) rfl (by show Value.agg (((Ev.c x).drop 3).take 19).toArray = _; rw [Ev.a_part]) ?_
                refine d_e rfl ?_
                refine e_call_00 (rmay_spec o x.a) rfl rfl rfl Try.call28 rfl (fun _ _ => trivial) ?_
                intro _ _
                refine d_held (fun _ h => h) ?_
                refine d_q rfl (q_not rfl rfl) rfl rfl ?_
                refine d_q rfl (q_pick_f rfl rfl rfl) rfl rfl ?_
                refine d_nil ?_
                refine k_then ?_
                refine Pre.caseB 95 rfl (fun h7 => ?_) (fun h7 => ?_)
                · try simp only [Bool.not_eq_true', Bool.not_eq_false'] at h7
                  have hno : stp ops st x = none := stp_bad hc hlo hpk (by unfold okB; simp [ho, hd, h7])
                  refine c_true rfl ?_
                  refine c_seq ?_
                  refine c_region _ rfl ?_
                  refine l_q rfl (q_assign rfl rfl) rfl rfl ?_
                  refine l_nil ?_
                  refine k_then ?_
                  refine c_ret ?_
                  refine k_then_ret ?_
                  refine k_then_ret ?_
                  refine k_block_ret ?_
                  refine k_then_ret ?_
                  refine k_then_ret ?_
                  refine k_block_ret ?_
                  refine k_then_ret ?_
                  refine r_one rfl rfl ?_
                  exact fun _ h => ⟨(), congrArg (fun z => Ending.returned (Value.bool z)) (chk_none (i := i + 1) (hsn.trans hno)).symm, trivial, h.nothing⟩
                · try simp only [Bool.not_eq_true', Bool.not_eq_false'] at h7
                  refine c_false rfl ?_
                  refine c_skip ?_
                  refine k_then ?_
                  refine c_seq ?_
                  refine c_region _ rfl ?_
                  refine l_q rfl (q_move rfl rfl) rfl rfl ?_
                  refine l_q rfl (q_move rfl rfl) rfl rfl ?_
                  refine l_q rfl (q_indexV c rfl Try.underlying22 Try.sizeOf3 rfl (fun _ h => h.rd 2 rfl) rfl rfl (by omega)) rfl rfl ?_
                  refine l_q rfl (q_loadV c 0 rfl Try.isAgg3 rfl rfl (fun _ h => h.rd 2 rfl) hdc2 rfl) rfl rfl ?_
                  refine l_q rfl (q_inc rfl rfl rfl (by omega)) rfl rfl ?_
                  refine l_q rfl (q_indexV c rfl Try.underlying22 Try.sizeOf3 rfl (fun _ h => h.rd 2 rfl) rfl rfl (by omega)) rfl rfl ?_
                  refine pull2 ?_
                  refine l_e rfl ?_
                  refine e_storeV c 0 (((k + 1 : Nat) : Int)) rfl rfl Try.sizeOf3 rfl rfl rfl (List.getElem?_eq_getElem (by omega)) (by decide) rfl ?_
                  refine l_nil ?_
                  refine k_then ?_
                  refine c_exit ?_
                  refine k_then_exit ?_
                  refine k_block_exit ?_
                  refine k_then ?_
                  refine c_region _ rfl ?_
                  refine l_q rfl (q_move rfl rfl) rfl rfl ?_
                  refine l_q rfl (q_inc rfl rfl rfl (by omega)) rfl rfl ?_
                  refine l_q rfl (q_assign rfl rfl) rfl rfl ?_
                  refine l_nil ?_
                  have hyes : stp ops st x = some (st.set c (k + 1, false)) := (stp_ok hc hlo hpk (by unfold okB; simp [ho, hd, h5, h7])).trans (by simp [nxt, hd])
                  have hb3 : begL (st.set c (k + 1, false)) = begL st := by unfold begL; rw [List.map_set]; exact set_same hbc2
                  have hd3 : donL (st.set c (k + 1, false)) = (donL st).set c ((k + 1 : Nat) : Int) := by unfold donL; rw [List.map_set]
                  refine pull1 ?_
                  refine drop0 ?_
                  refine pull1 ?_
                  exact k_round ((i + 1, st.set c (k + 1, false))) (by dsimp only; omega) ⟨by dsimp only; omega, hsn.trans hyes, by dsimp only; rw [List.length_set]; exact hst⟩ (Sub.cons rfl (Sub.cons rfl (Sub.cons rfl (Sub.cons rfl (Sub.cons rfl (Sub.nil)))))) (fun _ h => by dsimp only; rw [hb3, hd3]; exact h)
          · subst hu
            have hbc2 : (begL st)[c]? = some (((k : Nat)) : Int) := hbc
            have hdc2 : (donL st)[c]? = some (k : Int) := hdc
            refine c_false rfl ?_
            refine c_skip ?_
            refine k_then ?_
            refine c_seq ?_
            refine c_region _ rfl ?_
            refine l_q rfl (q_move rfl rfl) rfl rfl ?_
            refine l_q rfl (q_move rfl rfl) rfl rfl ?_
            refine l_q rfl (q_indexV c rfl Try.underlying22 Try.sizeOf3 rfl (fun _ h => h.rd 0 rfl) rfl rfl (by omega)) rfl rfl ?_
            refine l_q rfl (q_loadV c 0 rfl Try.isAgg3 rfl rfl (fun _ h => h.rd 0 rfl) hbc2 rfl) rfl rfl ?_
            refine l_q rfl (q_assign rfl rfl) rfl rfl ?_
            refine l_nil ?_
            refine k_then ?_
            refine c_seq ?_
            refine c_seq ?_
            refine c_region _ rfl ?_
            refine l_q rfl (q_move rfl rfl) rfl rfl ?_
            refine l_q rfl (q_move rfl rfl) rfl rfl ?_
            refine l_q rfl (q_indexV i rfl Try.underlying26 Try.sizeOf52 rfl (fun _ h => hl.keep h (by simp [dom])) rfl rfl (by omega)) rfl rfl ?_
            refine l_q rfl (q_fieldAddr rfl Try.underlying52 rfl Try.sizeOf4 rfl rfl) rfl rfl ?_
            refine l_q rfl (q_loadV i 2 rfl Try.isAgg4 rfl rfl (fun _ h => hl.keep h (by simp [dom])) hx rfl) rfl rfl ?_
            refine l_nil ?_
            refine k_then ?_
            refine Pre.setB (t := 44) (c := true) rfl (hd) ?_
            refine c_true rfl ?_
            refine c_region _ rfl ?_
            refine l_q rfl (q_move rfl rfl) rfl rfl ?_
            refine l_q rfl (q_move rfl rfl) rfl rfl ?_
            refine l_q rfl (q_indexV c rfl Try.underlying22 Try.sizeOf3 rfl (fun _ h => h.rd 1 rfl) rfl rfl (by omega)) rfl rfl ?_
            refine l_q rfl (q_loadV c 0 rfl Try.isAgg3 rfl rfl (fun _ h => h.rd 1 rfl) hdc2 rfl) rfl rfl ?_
            refine l_q rfl (q_assign rfl rfl) rfl rfl ?_
            refine l_nil ?_
            refine k_then ?_
            refine c_seq ?_
            refine c_seq ?_
            refine c_region _ rfl ?_
            refine l_q rfl (q_move rfl rfl) rfl rfl ?_
            refine l_q rfl (q_move rfl rfl) rfl rfl ?_
            refine l_q rfl (q_indexV i rfl Try.underlying26 Try.sizeOf52 rfl (fun _ h => hl.keep h (by simp [dom])) rfl rfl (by omega)) rfl rfl ?_
            refine l_q rfl (q_fieldAddr rfl Try.underlying52 rfl Try.sizeOf3 rfl rfl) rfl rfl ?_
            refine l_q rfl (q_loadV i 1 rfl Try.isAgg3 rfl rfl (fun _ h => hl.keep h (by simp [dom])) hx rfl) rfl rfl ?_
            refine l_q rfl (q_move rfl rfl) rfl rfl ?_
            refine l_q rfl (q_neq rfl rfl rfl) rfl rfl ?_
            refine l_q rfl (q_move rfl rfl) rfl rfl ?_
            refine Pre.caseB 56 rfl (fun h5 => ?_) (fun h5 => ?_)
            · try simp only [decide_eq_true_eq, decide_eq_false_iff_not, Bool.not_eq_true', Bool.not_eq_false'] at h5
              have hno : stp ops st x = none := stp_bad hc hlo hpk (by unfold okB; simp [hd])
              refine l_not rfl rfl rfl ?_
              refine l_not rfl rfl rfl ?_
              refine l_not rfl rfl rfl ?_
              refine l_not rfl rfl rfl ?_
              refine l_not rfl rfl rfl ?_
              refine l_not rfl rfl rfl ?_
              refine l_not rfl rfl rfl ?_
              refine l_q rfl (q_pick_t rfl rfl rfl) rfl rfl ?_
              refine l_nil ?_
              refine k_then ?_
              refine c_true rfl ?_
              refine c_seq ?_
              refine c_region _ rfl ?_
              refine l_q rfl (q_assign rfl rfl) rfl rfl ?_
              refine l_nil ?_
              refine k_then ?_
              refine c_ret ?_
              refine k_then_ret ?_
              refine k_block_ret ?_
              refine k_then_ret ?_
              refine k_then_ret ?_
              refine k_block_ret ?_
              refine k_then_ret ?_
              refine r_one rfl rfl ?_
              exact fun _ h => ⟨(), congrArg (fun z => Ending.returned (Value.bool z)) (chk_none (i := i + 1) (hsn.trans hno)).symm, trivial, h.nothing⟩
            · try simp only [decide_eq_true_eq, decide_eq_false_iff_not, Bool.not_eq_true', Bool.not_eq_false'] at h5
              refine l_q rfl (q_move rfl rfl) rfl rfl ?_
              refine l_q rfl (q_move rfl rfl) rfl rfl ?_
              refine l_q rfl (q_move rfl rfl) rfl rfl ?_
              refine l_q rfl (q_indexV c rfl Try.underlying23 Try.sizeOf38 rfl (fun _ h => hvo.keep h (by simp [dom])) rfl rfl (by omega)) rfl rfl ?_
              refine l_q rfl (q_loadV c 0 rfl Try.isAgg38 rfl rfl (fun _ h => hvo.keep h (by simp [dom])) hs rfl) rfl rfl ?_
              refine l_q rfl (q_lenV rfl Try.underlying38 rfl (fun _ h => hrd.keep h (by simp [dom]))) rfl rfl ?_
              refine l_q rfl (q_geq rfl rfl rfl) rfl rfl ?_
              refine l_q rfl (q_pick_f rfl rfl rfl) rfl rfl ?_
              refine l_nil ?_
              refine k_then ?_
              refine Pre.caseB 64 rfl (fun h6 => ?_) (fun h6 => ?_)
              · try simp only [decide_eq_true_eq, decide_eq_false_iff_not, Bool.not_eq_true', Bool.not_eq_false'] at h6
                have hno : stp ops st x = none := stp_bad hc hlo hpk (by unfold okB; simp [hd])
                refine c_true rfl ?_
                refine c_seq ?_
                refine c_region _ rfl ?_
                refine l_q rfl (q_assign rfl rfl) rfl rfl ?_
                refine l_nil ?_
                refine k_then ?_
                refine c_ret ?_
                refine k_then_ret ?_
                refine k_block_ret ?_
                refine k_then_ret ?_
                refine k_then_ret ?_
                refine k_block_ret ?_
                refine k_then_ret ?_
                refine r_one rfl rfl ?_
                exact fun _ h => ⟨(), congrArg (fun z => Ending.returned (Value.bool z)) (chk_none (i := i + 1) (hsn.trans hno)).symm, trivial, h.nothing⟩
              · try simp only [decide_eq_true_eq, decide_eq_false_iff_not, Bool.not_eq_true', Bool.not_eq_false'] at h6
                obtain ⟨o, ho⟩ : ∃ o, lo[k]? = some o := ⟨_, List.getElem?_eq_getElem (by omega)⟩
                refine c_false rfl ?_
                refine c_skip ?_
                refine k_then ?_
                refine c_seq ?_
                refine c_region _ rfl ?_
                refine l_q rfl (q_move rfl rfl) rfl rfl ?_
                refine l_q rfl (q_move rfl rfl) rfl rfl ?_
                refine l_q rfl (q_indexV c rfl Try.underlying23 Try.sizeOf38 rfl (fun _ h => hvo.keep h (by simp [dom])) rfl rfl (by omega)) rfl rfl ?_
                refine l_q rfl (q_loadV c 0 rfl Try.isAgg38 rfl rfl (fun _ h => hvo.keep h (by simp [dom])) hs rfl) rfl rfl ?_
                refine l_q rfl (q_move rfl rfl) rfl rfl ?_
                refine l_q rfl (q_indexV k rfl Try.underlying38 Try.sizeOf37 rfl (fun _ h => hrd.keep h (by simp [dom])) rfl rfl (by omega)) rfl rfl ?_
                refine l_q rfl (q_loadVAgg k rfl Try.isAgg37 Try.sizeOf37 rfl rfl (fun _ h => hrd.keep h (by simp [dom])) ho) rfl rfl ?_
                refine l_e rfl ?_
                refine e_alloc rfl rfl rfl Try.zeroValue37 ?_
                intro bo
                refine l_e rfl ?_
                refine e_storeAgg rfl rfl Try.sizeOf37 rfl rfl (Op.c_len _) (Op.one _) (by show 0 + (Op.c o).length ≤ 4; rw [Op.c_len]; decide) ?_
                refine cells_eq (show Sep.splice _ 0 o.c = o.c from Sep.splice_all rfl) ?_
                refine l_nil ?_
                refine k_then ?_
                refine c_seq ?_
                refine c_seq ?_
                refine c_region _ rfl ?_
                refine l_q rfl (q_move rfl rfl) rfl rfl ?_
                refine l_q rfl (q_move rfl rfl) rfl rfl ?_
                refine l_q rfl (q_indexV i rfl Try.underlying26 Try.sizeOf52 rfl (fun _ h => hl.keep h (by simp [dom])) rfl rfl (by omega)) rfl rfl ?_
                refine l_q rfl (q_fieldAddr rfl Try.underlying52 rfl Try.sizeOf4 rfl rfl) rfl rfl ?_
                refine l_q rfl (q_loadV i 2 rfl Try.isAgg4 rfl rfl (fun _ h => hl.keep h (by simp [dom])) hx rfl) rfl rfl ?_
                refine l_nil ?_
                refine k_then ?_
                refine Pre.setB (t := 76) (c := true) rfl (hd) ?_
                refine c_true rfl ?_
                refine c_seq ?_
                refine c_seq ?_
                refine c_draw [(0, some true), (1, some true), (2, some true), (3, some true), (4, some true), (5, some true), (6, some true), (7, some true), (8, some true), (9, some true), (10, some true), (11, some true), (12, some true), (13, some true), (14, some true), (15, some true), (16, some false), (17, some true), (18, some true)] [] [(_, some true), (_, some true), (_, some true), (_, some true), (_, some true), (_, some true), (_, some true), (_, some true), (_, some true), (_, some true), (_, some true), (_, some true), (_, some true), (_, some true), (_, some true), (_, some true), (_, some false), (_, some true), (_, some true)] _ (blind_then (blind_then (blind_then (blind_block (blind_then (blind_then (blind_block (blind_then blind_body)))))))) rfl (by kernel_rfl) (by kernel_rfl) rfl rfl rfl (by kernel_rfl) St.drawn (fun _ h => h) ?_
                refine d_q rfl (q_move rfl rfl) rfl rfl ?_
                refine d_q rfl (q_move rfl rfl) rfl rfl ?_
                refine d_q rfl (q_indexV c rfl Try.underlying22 Try.sizeOf3 rfl (fun _ h => h.rd 2 rfl) rfl rfl (by omega)) rfl rfl ?_
                refine d_q rfl (q_loadV c 0 rfl Try.isAgg3 rfl rfl (fun _ h => h.rd 2 rfl) hdc2 rfl) rfl rfl ?_
                refine d_q rfl (q_move rfl rfl) rfl rfl ?_
                refine d_q rfl (q_move rfl rfl) rfl rfl ?_
                refine d_q rfl (q_indexV c rfl Try.underlying22 Try.sizeOf3 rfl (fun _ h => h.rd 1 rfl) rfl rfl (by omega)) rfl rfl ?_
                refine d_q rfl (q_loadV c 0 rfl Try.isAgg3 rfl rfl (fun _ h => h.rd 1 rfl) hbc2 rfl) rfl rfl ?_
                refine d_q rfl (q_geq rfl rfl rfl) rfl rfl ?_
                refine d_q rfl (q_move rfl rfl) rfl rfl ?_
                refine Pre.setB (t := 86) (c := true) rfl (by first | exact decide_eq_true (by omega) | exact decide_eq_false (by omega) | (simp; done) | (simp; omega)) ?_
                refine d_not rfl rfl rfl ?_
                refine d_not rfl rfl rfl ?_
                refine d_not rfl rfl rfl ?_
                refine d_not rfl rfl rfl ?_
                refine d_not rfl rfl rfl ?_
                refine d_not rfl rfl rfl ?_
                refine d_not rfl rfl rfl ?_
                refine d_not rfl rfl rfl ?_
                refine d_q rfl (q_pick_t rfl rfl rfl) rfl rfl ?_
                refine d_nil ?_
                refine k_then ?_
                refine c_true rfl ?_
                refine c_seq ?_
                refine c_region _ rfl ?_
                refine l_q rfl (q_assign rfl rfl) rfl rfl ?_
                refine l_nil ?_
                refine k_then ?_
                refine c_ret ?_
                refine k_then_ret ?_
                refine k_then_ret ?_
                refine k_block_ret ?_
                refine k_then_ret ?_
                refine k_then_ret ?_
                refine k_block_ret ?_
                refine k_then_ret ?_
                have hno : stp ops st x = none := stp_bad hc hlo hpk (by unfold okB; simp [hd])
                refine r_one rfl rfl ?_
                exact fun _ h => ⟨(), congrArg (fun z => Ending.returned (Value.bool z)) (chk_none (i := i + 1) (hsn.trans hno)).symm, trivial, h.nothing⟩
        · refine bool_cases (b := u) (fun hu => ?_) (fun hu => ?_)
          · subst hu
            have hbc2 : (begL st)[c]? = some (((k + 1 : Nat)) : Int) := hbc
            have hdc2 : (donL st)[c]? = some (k : Int) := hdc
            refine c_false rfl ?_
            refine c_skip ?_
            refine k_then ?_
            refine c_seq ?_
            refine c_region _ rfl ?_
            refine l_q rfl (q_move rfl rfl) rfl rfl ?_
            refine l_q rfl (q_move rfl rfl) rfl rfl ?_
            refine l_q rfl (q_indexV c rfl Try.underlying22 Try.sizeOf3 rfl (fun _ h => h.rd 0 rfl) rfl rfl (by omega)) rfl rfl ?_
            refine l_q rfl (q_loadV c 0 rfl Try.isAgg3 rfl rfl (fun _ h => h.rd 0 rfl) hbc2 rfl) rfl rfl ?_
            refine l_q rfl (q_assign rfl rfl) rfl rfl ?_
            refine l_nil ?_
            refine k_then ?_
            refine c_seq ?_
            refine c_seq ?_
            refine c_region _ rfl ?_
            refine l_q rfl (q_move rfl rfl) rfl rfl ?_
            refine l_q rfl (q_move rfl rfl) rfl rfl ?_
            refine l_q rfl (q_indexV i rfl Try.underlying26 Try.sizeOf52 rfl (fun _ h => hl.keep h (by simp [dom])) rfl rfl (by omega)) rfl rfl ?_
            refine l_q rfl (q_fieldAddr rfl Try.underlying52 rfl Try.sizeOf4 rfl rfl) rfl rfl ?_
            refine l_q rfl (q_loadV i 2 rfl Try.isAgg4 rfl rfl (fun _ h => hl.keep h (by simp [dom])) hx rfl) rfl rfl ?_
            refine l_nil ?_
            refine k_then ?_
            refine Pre.setB (t := 44) (c := false) rfl (hd) ?_
            refine c_false rfl ?_
            refine c_skip ?_
            refine k_then ?_
            refine c_seq ?_
            refine c_seq ?_
            refine c_region _ rfl ?_
            refine l_q rfl (q_move rfl rfl) rfl rfl ?_
            refine l_q rfl (q_move rfl rfl) rfl rfl ?_
            refine l_q rfl (q_indexV i rfl Try.underlying26 Try.sizeOf52 rfl (fun _ h => hl.keep h (by simp [dom])) rfl rfl (by omega)) rfl rfl ?_
            refine l_q rfl (q_fieldAddr rfl Try.underlying52 rfl Try.sizeOf3 rfl rfl) rfl rfl ?_
            refine l_q rfl (q_loadV i 1 rfl Try.isAgg3 rfl rfl (fun _ h => hl.keep h (by simp [dom])) hx rfl) rfl rfl ?_
            refine l_q rfl (q_move rfl rfl) rfl rfl ?_
            refine l_q rfl (q_neq rfl rfl rfl) rfl rfl ?_
            refine l_q rfl (q_move rfl rfl) rfl rfl ?_
            refine Pre.caseB 56 rfl (fun h5 => ?_) (fun h5 => ?_)
            · try simp only [decide_eq_true_eq, decide_eq_false_iff_not, Bool.not_eq_true', Bool.not_eq_false'] at h5
              have hno : stp ops st x = none := stp_bad hc hlo hpk (by unfold okB; simp [hd])
              refine l_not rfl rfl rfl ?_
              refine l_not rfl rfl rfl ?_
              refine l_not rfl rfl rfl ?_
              refine l_not rfl rfl rfl ?_
              refine l_not rfl rfl rfl ?_
              refine l_not rfl rfl rfl ?_
              refine l_not rfl rfl rfl ?_
              refine l_q rfl (q_pick_t rfl rfl rfl) rfl rfl ?_
              refine l_nil ?_
              refine k_then ?_
              refine c_true rfl ?_
              refine c_seq ?_
              refine c_region _ rfl ?_
              refine l_q rfl (q_assign rfl rfl) rfl rfl ?_
              refine l_nil ?_
              refine k_then ?_
              refine c_ret ?_
              refine k_then_ret ?_
              refine k_block_ret ?_
              refine k_then_ret ?_
              refine k_then_ret ?_
              refine k_block_ret ?_
              refine k_then_ret ?_
              refine r_one rfl rfl ?_
              exact fun _ h => ⟨(), congrArg (fun z => Ending.returned (Value.bool z)) (chk_none (i := i + 1) (hsn.trans hno)).symm, trivial, h.nothing⟩
            · try simp only [decide_eq_true_eq, decide_eq_false_iff_not, Bool.not_eq_true', Bool.not_eq_false'] at h5
              refine l_q rfl (q_move rfl rfl) rfl rfl ?_
              refine l_q rfl (q_move rfl rfl) rfl rfl ?_
              refine l_q rfl (q_move rfl rfl) rfl rfl ?_
              refine l_q rfl (q_indexV c rfl Try.underlying23 Try.sizeOf38 rfl (fun _ h => hvo.keep h (by simp [dom])) rfl rfl (by omega)) rfl rfl ?_
              refine l_q rfl (q_loadV c 0 rfl Try.isAgg38 rfl rfl (fun _ h => hvo.keep h (by simp [dom])) hs rfl) rfl rfl ?_
              refine l_q rfl (q_lenV rfl Try.underlying38 rfl (fun _ h => hrd.keep h (by simp [dom]))) rfl rfl ?_
              refine l_q rfl (q_geq rfl rfl rfl) rfl rfl ?_
              refine l_q rfl (q_pick_f rfl rfl rfl) rfl rfl ?_
              refine l_nil ?_
              refine k_then ?_
              refine Pre.caseB 64 rfl (fun h6 => ?_) (fun h6 => ?_)
              · try simp only [decide_eq_true_eq, decide_eq_false_iff_not, Bool.not_eq_true', Bool.not_eq_false'] at h6
                have hno : stp ops st x = none := stp_bad hc hlo hpk (by unfold okB; simp [hd])
                refine c_true rfl ?_
                refine c_seq ?_
                refine c_region _ rfl ?_
                refine l_q rfl (q_assign rfl rfl) rfl rfl ?_
                refine l_nil ?_
                refine k_then ?_
                refine c_ret ?_
                refine k_then_ret ?_
                refine k_block_ret ?_
                refine k_then_ret ?_
                refine k_then_ret ?_
                refine k_block_ret ?_
                refine k_then_ret ?_
                refine r_one rfl rfl ?_
                exact fun _ h => ⟨(), congrArg (fun z => Ending.returned (Value.bool z)) (chk_none (i := i + 1) (hsn.trans hno)).symm, trivial, h.nothing⟩
              · try simp only [decide_eq_true_eq, decide_eq_false_iff_not, Bool.not_eq_true', Bool.not_eq_false'] at h6
                obtain ⟨o, ho⟩ : ∃ o, lo[(k + 1)]? = some o := ⟨_, List.getElem?_eq_getElem (by omega)⟩
                refine c_false rfl ?_
                refine c_skip ?_
                refine k_then ?_
                refine c_seq ?_
                refine c_region _ rfl ?_
                refine l_q rfl (q_move rfl rfl) rfl rfl ?_
                refine l_q rfl (q_move rfl rfl) rfl rfl ?_
                refine l_q rfl (q_indexV c rfl Try.underlying23 Try.sizeOf38 rfl (fun _ h => hvo.keep h (by simp [dom])) rfl rfl (by omega)) rfl rfl ?_
                refine l_q rfl (q_loadV c 0 rfl Try.isAgg38 rfl rfl (fun _ h => hvo.keep h (by simp [dom])) hs rfl) rfl rfl ?_
                refine l_q rfl (q_move rfl rfl) rfl rfl ?_
                refine l_q rfl (q_indexV (k + 1) rfl Try.underlying38 Try.sizeOf37 rfl (fun _ h => hrd.keep h (by simp [dom])) rfl rfl (by omega)) rfl rfl ?_
                refine l_q rfl (q_loadVAgg (k + 1) rfl Try.isAgg37 Try.sizeOf37 rfl rfl (fun _ h => hrd.keep h (by simp [dom])) ho) rfl rfl ?_
                refine l_e rfl ?_
                refine e_alloc rfl rfl rfl Try.zeroValue37 ?_
                intro bo
                refine l_e rfl ?_
                refine e_storeAgg rfl rfl Try.sizeOf37 rfl rfl (Op.c_len _) (Op.one _) (by show 0 + (Op.c o).length ≤ 4; rw [Op.c_len]; decide) ?_
                refine cells_eq (show Sep.splice _ 0 o.c = o.c from Sep.splice_all rfl) ?_
                refine l_nil ?_
                refine k_then ?_
                refine c_seq ?_
                refine c_seq ?_
                refine c_region _ rfl ?_
                refine l_q rfl (q_move rfl rfl) rfl rfl ?_
                refine l_q rfl (q_move rfl rfl) rfl rfl ?_
                refine l_q rfl (q_indexV i rfl Try.underlying26 Try.sizeOf52 rfl (fun _ h => hl.keep h (by simp [dom])) rfl rfl (by omega)) rfl rfl ?_
                refine l_q rfl (q_fieldAddr rfl Try.underlying52 rfl Try.sizeOf4 rfl rfl) rfl rfl ?_
                refine l_q rfl (q_loadV i 2 rfl Try.isAgg4 rfl rfl (fun _ h => hl.keep h (by simp [dom])) hx rfl) rfl rfl ?_
                refine l_nil ?_
                refine k_then ?_
                refine Pre.setB (t := 76) (c := false) rfl (hd) ?_
                refine c_false rfl ?_
                refine c_skip ?_
                refine k_then ?_
                refine c_seq ?_
                refine c_seq ?_
                refine c_draw [(0, some true), (1, some true), (2, some true), (3, some true), (4, some true), (5, some true), (6, some true), (7, some true), (8, some true), (9, some true), (10, some true), (11, some true), (12, some true), (13, some true), (14, some true), (15, some true), (16, some true), (17, some true), (18, some true), (19, some true), (20, some true), (21, some true), (22, some true), (23, some true), (24, some true), (25, some true), (26, some true), (27, some true)] [] [(_, some true), (_, some true), (_, some true), (_, some true), (_, some true), (_, some true), (_, some true), (_, some true), (_, some true), (_, some true), (_, some true), (_, some true), (_, some true), (_, some true), (_, some true), (_, some true), (_, some true), (_, some true), (_, some true), (_, some true), (_, some true), (_, some true), (_, some true), (_, some true), (_, some true), (_, some true), (_, some true), (_, some true)] _ (blind_then (blind_then (blind_block (blind_then (blind_then (blind_block (blind_then blind_body))))))) rfl (by kernel_rfl) (by kernel_rfl) rfl rfl rfl (by kernel_rfl) St.drawn (fun _ h => h) ?_
                refine d_q rfl (q_move rfl rfl) rfl rfl ?_
                refine d_q rfl (q_move rfl rfl) rfl rfl ?_
                refine d_q rfl (q_indexV c rfl Try.underlying22 Try.sizeOf3 rfl (fun _ h => h.rd 2 rfl) rfl rfl (by omega)) rfl rfl ?_
                refine d_q rfl (q_loadV c 0 rfl Try.isAgg3 rfl rfl (fun _ h => h.rd 2 rfl) hdc2 rfl) rfl rfl ?_
                refine d_q rfl (q_move rfl rfl) rfl rfl ?_
                refine d_q rfl (q_move rfl rfl) rfl rfl ?_
                refine d_q rfl (q_indexV c rfl Try.underlying22 Try.sizeOf3 rfl (fun _ h => h.rd 1 rfl) rfl rfl (by omega)) rfl rfl ?_
                refine d_q rfl (q_loadV c 0 rfl Try.isAgg3 rfl rfl (fun _ h => h.rd 1 rfl) hbc2 rfl) rfl rfl ?_
                refine d_q rfl (q_neq rfl rfl rfl) rfl rfl ?_
                refine d_q rfl (q_move rfl rfl) rfl rfl ?_
                refine Pre.setB (t := 111) (c := true) rfl (by first | exact decide_eq_true (by omega) | exact decide_eq_false (by omega) | (simp; done) | (simp; omega)) ?_
                refine d_not rfl rfl rfl ?_
                refine d_not rfl rfl rfl ?_
                refine d_not rfl rfl rfl ?_
                refine d_not rfl rfl rfl ?_
                refine d_not rfl rfl rfl ?_
                refine d_not rfl rfl rfl ?_
                refine d_not rfl rfl rfl ?_
                refine d_q rfl (q_pick_t rfl rfl rfl) rfl rfl ?_
                refine d_q rfl (q_move rfl rfl) rfl rfl ?_
                refine d_not rfl rfl rfl ?_
                refine d_not rfl rfl rfl ?_
                refine d_not rfl rfl rfl ?_
                refine d_q rfl (q_pick_t rfl rfl rfl) rfl rfl ?_
                refine d_q rfl (q_move rfl rfl) rfl rfl ?_
                refine d_not rfl rfl rfl ?_
                refine d_not rfl rfl rfl ?_
                refine d_not rfl rfl rfl ?_
                refine d_q rfl (q_pick_t rfl rfl rfl) rfl rfl ?_
                refine d_nil ?_
                refine k_then ?_
                refine c_true rfl ?_
                refine c_seq ?_
                refine c_region _ rfl ?_
                refine l_q rfl (q_assign rfl rfl) rfl rfl ?_
                refine l_nil ?_
                refine k_then ?_
                refine c_ret ?_
                refine k_then_ret ?_
                refine k_block_ret ?_
                refine k_then_ret ?_
                refine k_then_ret ?_
                refine k_block_ret ?_
                refine k_then_ret ?_
                have hno : stp ops st x = none := stp_bad hc hlo hpk (by unfold okB; simp [hd])
                refine r_one rfl rfl ?_
                exact fun _ h => ⟨(), congrArg (fun z => Ending.returned (Value.bool z)) (chk_none (i := i + 1) (hsn.trans hno)).symm, trivial, h.nothing⟩
          · subst hu
            have hbc2 : (begL st)[c]? = some (((k : Nat)) : Int) := hbc
            have hdc2 : (donL st)[c]? = some (k : Int) := hdc
            refine c_false rfl ?_
            refine c_skip ?_
            refine k_then ?_
            refine c_seq ?_
            refine c_region _ rfl ?_
            refine l_q rfl (q_move rfl rfl) rfl rfl ?_
            refine l_q rfl (q_move rfl rfl) rfl rfl ?_
            refine l_q rfl (q_indexV c rfl Try.underlying22 Try.sizeOf3 rfl (fun _ h => h.rd 0 rfl) rfl rfl (by omega)) rfl rfl ?_
            refine l_q rfl (q_loadV c 0 rfl Try.isAgg3 rfl rfl (fun _ h => h.rd 0 rfl) hbc2 rfl) rfl rfl ?_
            refine l_q rfl (q_assign rfl rfl) rfl rfl ?_
            refine l_nil ?_
            refine k_then ?_
            refine c_seq ?_
            refine c_seq ?_
            refine c_region _ rfl ?_
            refine l_q rfl (q_move rfl rfl) rfl rfl ?_
            refine l_q rfl (q_move rfl rfl) rfl rfl ?_
            refine l_q rfl (q_indexV i rfl Try.underlying26 Try.sizeOf52 rfl (fun _ h => hl.keep h (by simp [dom])) rfl rfl (by omega)) rfl rfl ?_
            refine l_q rfl (q_fieldAddr rfl Try.underlying52 rfl Try.sizeOf4 rfl rfl) rfl rfl ?_
            refine l_q rfl (q_loadV i 2 rfl Try.isAgg4 rfl rfl (fun _ h => hl.keep h (by simp [dom])) hx rfl) rfl rfl ?_
            refine l_nil ?_
            refine k_then ?_
            refine Pre.setB (t := 44) (c := false) rfl (hd) ?_
            refine c_false rfl ?_
            refine c_skip ?_
            refine k_then ?_
            refine c_seq ?_
            refine c_seq ?_
            refine c_region _ rfl ?_
            refine l_q rfl (q_move rfl rfl) rfl rfl ?_
            refine l_q rfl (q_move rfl rfl) rfl rfl ?_
            refine l_q rfl (q_indexV i rfl Try.underlying26 Try.sizeOf52 rfl (fun _ h => hl.keep h (by simp [dom])) rfl rfl (by omega)) rfl rfl ?_
            refine l_q rfl (q_fieldAddr rfl Try.underlying52 rfl Try.sizeOf3 rfl rfl) rfl rfl ?_
            refine l_q rfl (q_loadV i 1 rfl Try.isAgg3 rfl rfl (fun _ h => hl.keep h (by simp [dom])) hx rfl) rfl rfl ?_
            refine l_q rfl (q_move rfl rfl) rfl rfl ?_
            refine l_q rfl (q_neq rfl rfl rfl) rfl rfl ?_
            refine l_q rfl (q_move rfl rfl) rfl rfl ?_
            refine Pre.caseB 56 rfl (fun h5 => ?_) (fun h5 => ?_)
            · try simp only [decide_eq_true_eq, decide_eq_false_iff_not, Bool.not_eq_true', Bool.not_eq_false'] at h5
              have hno : stp ops st x = none := stp_bad hc hlo hpk (by unfold okB; simp [h5])
              refine l_not rfl rfl rfl ?_
              refine l_not rfl rfl rfl ?_
              refine l_not rfl rfl rfl ?_
              refine l_not rfl rfl rfl ?_
              refine l_not rfl rfl rfl ?_
              refine l_not rfl rfl rfl ?_
              refine l_not rfl rfl rfl ?_
              refine l_q rfl (q_pick_t rfl rfl rfl) rfl rfl ?_
              refine l_nil ?_
              refine k_then ?_
              refine c_true rfl ?_
              refine c_seq ?_
              refine c_region _ rfl ?_
              refine l_q rfl (q_assign rfl rfl) rfl rfl ?_
              refine l_nil ?_
              refine k_then ?_
              refine c_ret ?_
              refine k_then_ret ?_
              refine k_block_ret ?_
              refine k_then_ret ?_
              refine k_then_ret ?_
              refine k_block_ret ?_
              refine k_then_ret ?_
              refine r_one rfl rfl ?_
              exact fun _ h => ⟨(), congrArg (fun z => Ending.returned (Value.bool z)) (chk_none (i := i + 1) (hsn.trans hno)).symm, trivial, h.nothing⟩
            · try simp only [decide_eq_true_eq, decide_eq_false_iff_not, Bool.not_eq_true', Bool.not_eq_false'] at h5
              refine l_q rfl (q_move rfl rfl) rfl rfl ?_
              refine l_q rfl (q_move rfl rfl) rfl rfl ?_
              refine l_q rfl (q_move rfl rfl) rfl rfl ?_
              refine l_q rfl (q_indexV c rfl Try.underlying23 Try.sizeOf38 rfl (fun _ h => hvo.keep h (by simp [dom])) rfl rfl (by omega)) rfl rfl ?_
              refine l_q rfl (q_loadV c 0 rfl Try.isAgg38 rfl rfl (fun _ h => hvo.keep h (by simp [dom])) hs rfl) rfl rfl ?_
              refine l_q rfl (q_lenV rfl Try.underlying38 rfl (fun _ h => hrd.keep h (by simp [dom]))) rfl rfl ?_
              refine l_q rfl (q_geq rfl rfl rfl) rfl rfl ?_
              refine l_q rfl (q_pick_f rfl rfl rfl) rfl rfl ?_
              refine l_nil ?_
              refine k_then ?_
              refine Pre.caseB 64 rfl (fun h6 => ?_) (fun h6 => ?_)
              · try simp only [decide_eq_true_eq, decide_eq_false_iff_not, Bool.not_eq_true', Bool.not_eq_false'] at h6
                have hno : stp ops st x = none := stp_bad hc hlo hpk (by unfold okB; simp [show lo[k]? = none from List.getElem?_eq_none (by omega)])
                refine c_true rfl ?_
                refine c_seq ?_
                refine c_region _ rfl ?_
                refine l_q rfl (q_assign rfl rfl) rfl rfl ?_
                refine l_nil ?_
                refine k_then ?_
                refine c_ret ?_
                refine k_then_ret ?_
                refine k_block_ret ?_
                refine k_then_ret ?_
                refine k_then_ret ?_
                refine k_block_ret ?_
                refine k_then_ret ?_
                refine r_one rfl rfl ?_
                exact fun _ h => ⟨(), congrArg (fun z => Ending.returned (Value.bool z)) (chk_none (i := i + 1) (hsn.trans hno)).symm, trivial, h.nothing⟩
              · try simp only [decide_eq_true_eq, decide_eq_false_iff_not, Bool.not_eq_true', Bool.not_eq_false'] at h6
                obtain ⟨o, ho⟩ : ∃ o, lo[k]? = some o := ⟨_, List.getElem?_eq_getElem (by omega)⟩
                refine c_false rfl ?_
                refine c_skip ?_
                refine k_then ?_
                refine c_seq ?_
                refine c_region _ rfl ?_
                refine l_q rfl (q_move rfl rfl) rfl rfl ?_
                refine l_q rfl (q_move rfl rfl) rfl rfl ?_
                refine l_q rfl (q_indexV c rfl Try.underlying23 Try.sizeOf38 rfl (fun _ h => hvo.keep h (by simp [dom])) rfl rfl (by omega)) rfl rfl ?_
                refine l_q rfl (q_loadV c 0 rfl Try.isAgg38 rfl rfl (fun _ h => hvo.keep h (by simp [dom])) hs rfl) rfl rfl ?_
                refine l_q rfl (q_move rfl rfl) rfl rfl ?_
                refine l_q rfl (q_indexV k rfl Try.underlying38 Try.sizeOf37 rfl (fun _ h => hrd.keep h (by simp [dom])) rfl rfl (by omega)) rfl rfl ?_
                refine l_q rfl (q_loadVAgg k rfl Try.isAgg37 Try.sizeOf37 rfl rfl (fun _ h => hrd.keep h (by simp [dom])) ho) rfl rfl ?_
                refine l_e rfl ?_
                refine e_alloc rfl rfl rfl Try.zeroValue37 ?_
                intro bo
                refine l_e rfl ?_
                refine e_storeAgg rfl rfl Try.sizeOf37 rfl rfl (Op.c_len _) (Op.one _) (by show 0 + (Op.c o).length ≤ 4; rw [Op.c_len]; decide) ?_
                refine cells_eq (show Sep.splice _ 0 o.c = o.c from Sep.splice_all rfl) ?_
                refine l_nil ?_
                refine k_then ?_
                refine c_seq ?_
                refine c_seq ?_
                refine c_region _ rfl ?_
                refine l_q rfl (q_move rfl rfl) rfl rfl ?_
                refine l_q rfl (q_move rfl rfl) rfl rfl ?_
                refine l_q rfl (q_indexV i rfl Try.underlying26 Try.sizeOf52 rfl (fun _ h => hl.keep h (by simp [dom])) rfl rfl (by omega)) rfl rfl ?_
                refine l_q rfl (q_fieldAddr rfl Try.underlying52 rfl Try.sizeOf4 rfl rfl) rfl rfl ?_
                refine l_q rfl (q_loadV i 2 rfl Try.isAgg4 rfl rfl (fun _ h => hl.keep h (by simp [dom])) hx rfl) rfl rfl ?_
                refine l_nil ?_
                refine k_then ?_
                refine Pre.setB (t := 76) (c := false) rfl (hd) ?_
                refine c_false rfl ?_
                refine c_skip ?_
                refine k_then ?_
                refine c_seq ?_
                refine c_seq ?_
                refine c_draw [(0, some true), (1, some true), (2, some true), (3, some true), (4, some true), (5, some true), (6, some true), (7, some true), (8, some true), (9, some true), (10, some true), (11, some true), (12, some true), (13, some true), (14, some true), (15, some true), (16, some true), (17, some true), (18, some true), (19, some true), (20, some true), (21, some true), (22, some true), (23, some true), (24, some true), (25, some true), (26, some true), (27, some true)] [] [(_, some true), (_, some true), (_, some true), (_, some true), (_, some true), (_, some true), (_, some true), (_, some true), (_, some true), (_, some true), (_, some true), (_, some true), (_, some true), (_, some true), (_, some true), (_, some true), (_, some true), (_, some true), (_, some true), (_, some true), (_, some true), (_, some true), (_, some true), (_, some true), (_, some true), (_, some true), (_, some true), (_, some true)] _ (blind_then (blind_then (blind_block (blind_then (blind_then (blind_block (blind_then blind_body))))))) rfl (by kernel_rfl) (by kernel_rfl) rfl rfl rfl (by kernel_rfl) St.drawn (fun _ h => h) ?_
                refine d_q rfl (q_move rfl rfl) rfl rfl ?_
                refine d_q rfl (q_move rfl rfl) rfl rfl ?_
                refine d_q rfl (q_indexV c rfl Try.underlying22 Try.sizeOf3 rfl (fun _ h => h.rd 2 rfl) rfl rfl (by omega)) rfl rfl ?_
                refine d_q rfl (q_loadV c 0 rfl Try.isAgg3 rfl rfl (fun _ h => h.rd 2 rfl) hdc2 rfl) rfl rfl ?_
                refine d_q rfl (q_move rfl rfl) rfl rfl ?_
                refine d_q rfl (q_move rfl rfl) rfl rfl ?_
                refine d_q rfl (q_indexV c rfl Try.underlying22 Try.sizeOf3 rfl (fun _ h => h.rd 1 rfl) rfl rfl (by omega)) rfl rfl ?_
                refine d_q rfl (q_loadV c 0 rfl Try.isAgg3 rfl rfl (fun _ h => h.rd 1 rfl) hbc2 rfl) rfl rfl ?_
                refine d_q rfl (q_neq rfl rfl rfl) rfl rfl ?_
                refine d_q rfl (q_move rfl rfl) rfl rfl ?_
                refine Pre.setB (t := 111) (c := false) rfl (by first | exact decide_eq_true (by omega) | exact decide_eq_false (by omega) | (simp; done) | (simp; omega)) ?_
                refine d_q rfl (q_move rfl rfl) rfl rfl ?_
                refine d_q rfl (q_move rfl rfl) rfl rfl ?_
                refine d_q rfl (q_indexV i rfl Try.underlying26 Try.sizeOf52 rfl (fun _ h => hl.keep h (by simp [dom])) rfl rfl (by omega)) rfl rfl ?_
                refine d_q rfl (q_fieldAddr rfl Try.underlying52 rfl Try.sizeOf45 rfl rfl) rfl rfl ?_
                refine d_q rfl (q_loadVPart i 3 rfl Try.isAgg45 Try.sizeOf45 rfl rfl (fun _ h => hl.keep h (by simp [dom])) hx (by decide)) rfl rfl ?_
                refine d_q rfl (q_build (an0.c) rfl rfl (fun w => by kernel_rfl)) rfl rfl ?_
                refine Pre.setV (t := 116) (c := .agg x.a.c.toArray) rfl (by show Value.agg (((Ev.c x).drop 3).take 19).toArray = _; rw [Ev.a_part]) ?_
                refine d_q rfl (q_neA (x.a) (an0) rfl rfl rfl) rfl rfl ?_
                refine d_q rfl (q_pick_f rfl rfl rfl) rfl rfl ?_
                refine d_q rfl (q_move rfl rfl) rfl rfl ?_
                refine Pre.caseB 120 rfl (fun h7 => ?_) (fun h7 => ?_)
                · try simp only [Bool.not_eq_true', Bool.not_eq_false', decide_eq_true_eq, decide_eq_false_iff_not] at h7
                  have hno : stp ops st x = none := stp_bad hc hlo hpk (by unfold okB; simp [ho, hd, h7])
                  refine d_not rfl rfl rfl ?_
                  refine d_not rfl rfl rfl ?_
                  refine d_not rfl rfl rfl ?_
                  refine d_q rfl (q_pick_t rfl rfl rfl) rfl rfl ?_
                  refine d_q rfl (q_move rfl rfl) rfl rfl ?_
                  refine d_not rfl rfl rfl ?_
                  refine d_not rfl rfl rfl ?_
                  refine d_not rfl rfl rfl ?_
                  refine d_q rfl (q_pick_t rfl rfl rfl) rfl rfl ?_
                  refine d_nil ?_
                  refine k_then ?_
                  refine c_true rfl ?_
                  refine c_seq ?_
                  refine c_region _ rfl ?_
                  refine l_q rfl (q_assign rfl rfl) rfl rfl ?_
                  refine l_nil ?_
                  refine k_then ?_
                  refine c_ret ?_
                  refine k_then_ret ?_
                  refine k_block_ret ?_
                  refine k_then_ret ?_
                  refine k_then_ret ?_
                  refine k_block_ret ?_
                  refine k_then_ret ?_
                  refine r_one rfl rfl ?_
                  exact fun _ h => ⟨(), congrArg (fun z => Ending.returned (Value.bool z)) (chk_none (i := i + 1) (hsn.trans hno)).symm, trivial, h.nothing⟩
                · try simp only [Bool.not_eq_true', Bool.not_eq_false', decide_eq_true_eq, decide_eq_false_iff_not] at h7
                  refine d_q rfl (q_fieldAddr rfl Try.underlying37 rfl Try.sizeOf3 rfl rfl) rfl rfl ?_
                  refine d_q rfl (q_loadC rfl Try.isAgg3 rfl (fun _ h => h.at 0 rfl) rfl) rfl rfl ?_
                  refine d_q rfl (q_lss rfl rfl rfl) rfl rfl ?_
                  refine d_q rfl (q_pick_f rfl rfl rfl) rfl rfl ?_
                  refine d_q rfl (q_move rfl rfl) rfl rfl ?_
                  refine Pre.caseB 125 rfl (fun h8 => ?_) (fun h8 => ?_)
                  · try simp only [decide_eq_true_eq, decide_eq_false_iff_not, Bool.not_eq_true', Bool.not_eq_false'] at h8
                    have hno : stp ops st x = none := stp_bad hc hlo hpk (by unfold okB kndB; simp [ho, hd, show ¬ 1 ≤ o.kind by omega])
                    refine d_not rfl rfl rfl ?_
                    refine d_not rfl rfl rfl ?_
                    refine d_not rfl rfl rfl ?_
                    refine d_q rfl (q_pick_t rfl rfl rfl) rfl rfl ?_
                    refine d_nil ?_
                    refine k_then ?_
                    refine c_true rfl ?_
                    refine c_seq ?_
                    refine c_region _ rfl ?_
                    refine l_q rfl (q_assign rfl rfl) rfl rfl ?_
                    refine l_nil ?_
                    refine k_then ?_
                    refine c_ret ?_
                    refine k_then_ret ?_
                    refine k_block_ret ?_
                    refine k_then_ret ?_
                    refine k_then_ret ?_
                    refine k_block_ret ?_
                    refine k_then_ret ?_
                    refine r_one rfl rfl ?_
                    exact fun _ h => ⟨(), congrArg (fun z => Ending.returned (Value.bool z)) (chk_none (i := i + 1) (hsn.trans hno)).symm, trivial, h.nothing⟩
                  · try simp only [decide_eq_true_eq, decide_eq_false_iff_not, Bool.not_eq_true', Bool.not_eq_false'] at h8
                    refine d_q rfl (q_fieldAddr rfl Try.underlying37 rfl Try.sizeOf3 rfl rfl) rfl rfl ?_
                    refine d_q rfl (q_loadC rfl Try.isAgg3 rfl (fun _ h => h.at 0 rfl) rfl) rfl rfl ?_
                    refine d_q rfl (q_gtr rfl rfl rfl) rfl rfl ?_
                    refine d_q rfl (q_pick_f rfl rfl rfl) rfl rfl ?_
                    refine d_nil ?_
                    refine k_then ?_
                    refine Pre.caseB 129 rfl (fun h9 => ?_) (fun h9 => ?_)
                    · try simp only [decide_eq_true_eq, decide_eq_false_iff_not, Bool.not_eq_true', Bool.not_eq_false'] at h9
                      have hno : stp ops st x = none := stp_bad hc hlo hpk (by unfold okB kndB; simp [ho, hd, show ¬ o.kind ≤ 4 by omega])
                      refine c_true rfl ?_
                      refine c_seq ?_
                      refine c_region _ rfl ?_
                      refine l_q rfl (q_assign rfl rfl) rfl rfl ?_
                      refine l_nil ?_
                      refine k_then ?_
                      refine c_ret ?_
                      refine k_then_ret ?_
                      refine k_block_ret ?_
                      refine k_then_ret ?_
                      refine k_then_ret ?_
                      refine k_block_ret ?_
                      refine k_then_ret ?_
                      refine r_one rfl rfl ?_
                      exact fun _ h => ⟨(), congrArg (fun z => Ending.returned (Value.bool z)) (chk_none (i := i + 1) (hsn.trans hno)).symm, trivial, h.nothing⟩
                    · try simp only [decide_eq_true_eq, decide_eq_false_iff_not, Bool.not_eq_true', Bool.not_eq_false'] at h9
                      refine c_false rfl ?_
                      refine c_skip ?_
                      refine k_then ?_
                      refine c_region _ rfl ?_
                      refine l_q rfl (q_move rfl rfl) rfl rfl ?_
                      refine l_q rfl (q_move rfl rfl) rfl rfl ?_
                      refine l_q rfl (q_indexV c rfl Try.underlying22 Try.sizeOf3 rfl (fun _ h => h.rd 1 rfl) rfl rfl (by omega)) rfl rfl ?_
                      refine l_q rfl (q_loadV c 0 rfl Try.isAgg3 rfl rfl (fun _ h => h.rd 1 rfl) hbc2 rfl) rfl rfl ?_
                      refine l_q rfl (q_inc rfl rfl rfl (by omega)) rfl rfl ?_
                      refine l_q rfl (q_indexV c rfl Try.underlying22 Try.sizeOf3 rfl (fun _ h => h.rd 1 rfl) rfl rfl (by omega)) rfl rfl ?_
                      refine pull1 ?_
                      refine l_e rfl ?_
                      refine e_storeV c 0 (((k + 1 : Nat) : Int)) rfl rfl Try.sizeOf3 rfl rfl rfl (List.getElem?_eq_getElem (by omega)) (by decide) rfl ?_
                      refine l_nil ?_
                      refine k_block ?_
                      refine k_then ?_
                      refine c_region _ rfl ?_
                      refine l_q rfl (q_move rfl rfl) rfl rfl ?_
                      refine l_q rfl (q_inc rfl rfl rfl (by omega)) rfl rfl ?_
                      refine l_q rfl (q_assign rfl rfl) rfl rfl ?_
                      refine l_nil ?_
                      have hyes : stp ops st x = some (st.set c (k, true)) := (stp_ok hc hlo hpk (by unfold okB kndB; simp [ho, hd, h5, h7, show 1 ≤ o.kind by omega, show o.kind ≤ 4 by omega])).trans (by simp [nxt, hd])
                      have hb3 : begL (st.set c (k, true)) = (begL st).set c ((k + 1 : Nat) : Int) := by unfold begL; rw [List.map_set]; rfl
                      have hd3 : donL (st.set c (k, true)) = donL st := by unfold donL; rw [List.map_set]; exact set_same hdc2
                      refine pull1 ?_
                      refine drop0 ?_
                      refine pull1 ?_
                      refine pull1 ?_
                      exact k_round ((i + 1, st.set c (k, true))) (by dsimp only; omega) ⟨by dsimp only; omega, hsn.trans hyes, by dsimp only; rw [List.length_set]; exact hst⟩ (Sub.cons rfl (Sub.cons rfl (Sub.cons rfl (Sub.cons rfl (Sub.cons rfl (Sub.nil)))))) (fun _ h => by dsimp only; rw [hb3, hd3]; exact h)
  · try simp only [decide_eq_true_eq, decide_eq_false_iff_not, Bool.not_eq_true', Bool.not_eq_false'] at h1
    have hie : i = l.length := by omega
    subst hie
    rw [List.take_length] at hck
    refine c_false rfl ?_
    refine c_exit ?_
    refine k_then_exit ?_
    refine k_then_exit ?_
    refine k_block_exit ?_
    refine k_then ?_
    refine c_seq ?_
    refine c_region _ rfl ?_
    refine l_q rfl (q_assign rfl rfl) rfl rfl ?_
    refine l_nil ?_
    refine k_then ?_
    refine c_ret ?_
    refine r_one rfl rfl ?_
    exact fun _ h => ⟨(), congrArg (fun z => Ending.returned (Value.bool z)) (by rw [hck]; rfl), trivial, h.nothing⟩
end Go.Proofs.Ythfdmeikpbkpaaa
