/- cache: how it lies in memory; its looks -/
import Derived.Test.YtpfbagkjhchojaaA
set_option linter.unusedVariables false
set_option linter.unusedSimpArgs false
namespace Go.Proofs.Ytpfbagkjhchojaa
open Go.Sep Go.RowKit

/-! ## The code's cache in memory -/
theorem opt_cases {α : Type} {Q : Prop} (o : Option α) (h1 : o = none → Q) (h2 : ∀ i, o = some i → Q) : Q := by cases o with
  | none => exact h1 rfl
  | some i => exact h2 i rfl
theorem bool_cases {b : Bool} {Q : Prop} (h1 : b = true → Q) (h2 : b = false → Q) : Q := by cases b; exact h2 rfl; exact h1 rfl
theorem e_q {P : Program} {n : Nat} {L : Env} {X : World → Prop} {o : Oper} {Q : Exit → Act → World → Prop} {K : Act → World → Prop} {v : Value} {d : Nat} (hd : o.dst = some d) (hn : d.blt n = true) (hq : QOp P n L X o v) (h : Pre n ((d, v) :: L) X K) : EOp P n L X o Q K :=
  EOp.val (β := Unit) (fun _ => v) (fun _ => True) (fun _ => X) hd hn (fun a w k x => ⟨(), w, hq a w k x, trivial, x⟩) (fun _ _ => h)
abbrev kI : Int → Value := Value.int .i64
abbrev vS (q : Sv × List Int) : Value := q.1.v
theorem keyI : KeyOk Try.prog 3 kI := keyOk_int .i64 Try.underlying3
def wn (q : Int × Int) : Wn := ⟨q.1, q.2, decide (q.2 = -1)⟩
structure CS where
  vF : Value
  fl : List FC
  bA : Nat
  at' : List (Int × Int)
  bL : Nat
  ld : List (Int × (Sv × List Int))
  vL : Value
  ln : List Wn
  hand : Int
namespace CS
def cells (S : CS) : List Value := [S.vF, .map (some S.bA), .map (some S.bL), S.vL, .int .i64 S.hand]
def rows (S : CS) : List Ent := S.ld.map (fun q => rowE q.2.1.v 3 (encI .i64) q.2.2)
def H (bc : Nat) (S : CS) : List Ent := [cellsE bc 78 S.cells, rowE S.vF 80 FC.enc S.fl, mapT S.bA kI kI S.at', mapT S.bL kI vS S.ld, rowE S.vL 83 Wn.enc S.ln] ++ S.rows
end CS
/-- The cache can be read. -/
structure CR (w : World) (bc : Nat) (S : CS) : Prop where
  c : (cellsE bc 78 S.cells).at w
  f : RdV w S.vF FC.enc S.fl
  a : (mapT S.bA kI kI S.at').at w
  m : (mapT S.bL kI vS S.ld).at w
  l : RdV w S.vL Wn.enc S.ln
  r : ∀ q ∈ S.ld, RdV w q.2.1.v (encI .i64) q.2.2
theorem CR.of {w0 w : World} {D : List Nat} {bc : Nat} {S : CS} {F : List Ent} (h : St w0 D (S.H bc ++ F) w) : CR w bc S :=
  ⟨h.at 0 rfl, h.rd 1 rfl, h.at 2 rfl, h.at 3 rfl, h.rd 4 rfl, fun q hq => rowE_rd (h.hp.holds _ (List.mem_append_left _ (List.mem_append_right _ (List.mem_map.2 ⟨q, hq, rfl⟩))))⟩
theorem CR.keep {w0 w : World} {bc : Nat} {S : CS} {H : List Ent} (h : CR w0 bc S) (s : St w0 [] H w) : CR w bc S :=
  ⟨cellsE_keep h.c s (by simp), h.f.keep s (by simp), mapT_keep h.a s (by simp), mapT_keep h.m s (by simp), h.l.keep s (by simp), fun q hq => (h.r q hq).keep s (by simp)⟩
/-- What lies in memory is the cache. -/
structure Rel (S : CS) (M : Mo) : Prop where
  fr : S.fl.map vw = M.fr
  ln : S.ln = M.line.map wn
  hd : S.hand = M.hand
  at' : ∀ b, mget b S.at' = Option.map (fun i : Nat => (i : Int)) (M.find b)
  ld : ∀ b, M.told b = match mget b S.ld with | some q => q.2 | none => []
  nd : (S.ld.map Prod.fst).Nodup
  na : (S.at'.map Prod.fst).Nodup
theorem Rel.len {S : CS} {M : Mo} (h : Rel S M) : S.fl.length = M.fr.length := by rw [← h.fr, List.length_map]
theorem Rel.lnl {S : CS} {M : Mo} (h : Rel S M) : S.ln.length = M.line.length := by rw [h.ln, List.length_map]
theorem Rel.get {S : CS} {M : Mo} (h : Rel S M) {i : Nat} {y : Vw} (hy : M.fr[i]? = some y) : ∃ f, S.fl[i]? = some f ∧ vw f = y := by
  rw [← h.fr, List.getElem?_map, Option.map_eq_some_iff] at hy; exact hy
theorem Rel.vw_at {S : CS} {M : Mo} (h : Rel S M) {i : Nat} {f : FC} (hf : S.fl[i]? = some f) : M.fr[i]? = some (vw f) := by rw [← h.fr, List.getElem?_map, hf]; rfl
theorem at_eq {M : Mo} {i : Nat} {y : Vw} (h : M.fr[i]? = some y) : M.at' i = y := by unfold Mo.at'; rw [List.getD_eq_getElem?_getD, h]; rfl
theorem find_at {M : Mo} {b : Int} {i : Nat} (h : M.find b = some i) : ∃ y, M.fr[i]? = some y ∧ y.blk = b ∧ (y.st = 1 ∨ y.st = 2) ∧ M.at' i = y := by
  obtain ⟨y, h1, h2, _⟩ := fst1_at h
  simp only [isB, Bool.and_eq_true, Bool.or_eq_true, decide_eq_true_eq] at h2
  exact ⟨y, h1, h2.1, h2.2, at_eq h1⟩
theorem frI_at {M : Mo} {b st : Int} {i : Nat} (h : M.frI b st = some i) : M.find b = some i ∧ (M.at' i).st = st := by
  unfold Mo.frI at h
  split at h
  · rename_i j hj
    split at h
    · rename_i hs; cases h; exact ⟨hj, hs⟩
    · cases h
  · cases h
/-- A frame's address. -/
abbrev fp (v : Value) (i : Nat) : Value := .pointer (some ⟨blk v, offs v + i * 11, none⟩)
def fpo (v : Value) : Option Nat → Value
  | some i => fp v i
  | none => .pointer none
theorem wn_t (q : Int × Int) : (wn q).t = q.1 := rfl
theorem stand_eq {S : CS} {M : Mo} (h : Rel S M) (t : Int) : fst1 (fun z : Wn => decide (z.t = t)) S.ln = M.stand t := by
  rw [h.ln]; unfold Mo.stand; rw [fst1_map]; rfl
theorem stand_at {M : Mo} {t : Int} {i : Nat} (h : M.stand t = some i) : ∃ q, M.line[i]? = some q ∧ q.1 = t := by
  obtain ⟨q, h1, h2, _⟩ := fst1_at h; exact ⟨q, h1, of_decide_eq_true h2⟩
theorem mget_mem {α β : Type} [DecidableEq α] {a : α} {y : β} : ∀ {l : List (α × β)}, mget a l = some y → (a, y) ∈ l
  | [], h => by cases h
  | (x, z) :: l, h => by
    simp only [mget] at h
    split at h
    · rename_i e; cases h; subst e; exact List.mem_cons_self ..
    · exact List.mem_cons_of_mem _ (mget_mem h)
theorem mem_mget {α β : Type} [DecidableEq α] {a : α} {y : β} : ∀ {l : List (α × β)}, (l.map Prod.fst).Nodup → (a, y) ∈ l → mget a l = some y
  | [], _, h => by cases h
  | (x, z) :: l, hn, h => by
    obtain ⟨h1, h2⟩ := List.nodup_cons.1 hn
    simp only [mget]
    rcases List.mem_cons.1 h with h5 | h5
    · cases h5; rw [if_pos rfl]
    · rw [if_neg (fun e => h1 (by subst e; exact List.mem_map.2 ⟨_, h5, rfl⟩))]; exact mem_mget h2 h5
theorem mput_keys {β : Type} (a : Int) (v : β) : ∀ {l : List (Int × β)}, (l.map Prod.fst).Nodup → ((mput a v l).map Prod.fst).Nodup
  | [], _ => by simp [mput]
  | (x, y) :: l, h => by
    obtain ⟨h1, h2⟩ := List.nodup_cons.1 h
    simp only [mput]
    split
    · rename_i e; subst e; exact List.nodup_cons.2 ⟨h1, h2⟩
    · rename_i e
      refine List.nodup_cons.2 ⟨fun hm => ?_, mput_keys a v h2⟩
      have : ∀ {l : List (Int × β)}, x ∈ (mput a v l).map Prod.fst → x = a ∨ x ∈ l.map Prod.fst := by
        intro l
        induction l with
        | nil => intro h; simp [mput] at h; exact .inl h
        | cons p l ih =>
          intro h
          simp only [mput] at h
          split at h
          · rename_i e2
            rcases List.mem_cons.1 h with h | h
            · exact .inl h
            · exact .inr (List.mem_cons_of_mem _ h)
          · rcases List.mem_cons.1 h with h | h
            · exact .inr (by rw [h]; exact List.mem_cons_self ..)
            · rcases ih h with h | h
              · exact .inl h
              · exact .inr (List.mem_cons_of_mem _ h)
      rcases this hm with h5 | h5
      · exact e h5.symm
      · exact h1 h5
/-- Who waits for a load is in one of the rows. -/
theorem waits_iff {S : CS} {M : Mo} (h : Rel S M) (t : Int) : M.waits t = true ↔ ∃ q ∈ S.ld, t ∈ q.2.2 := by
  constructor
  · intro hw
    obtain ⟨q, hq, hqt⟩ := List.any_eq_true.1 hw
    have ht : t ∈ M.told q.2 := List.mem_map.2 ⟨q, List.mem_filter.2 ⟨hq, by simp⟩, of_decide_eq_true hqt⟩
    rw [h.ld] at ht
    cases hm : mget q.2 S.ld with
    | none => rw [hm] at ht; cases ht
    | some r => rw [hm] at ht; exact ⟨_, mget_mem hm, ht⟩
  · rintro ⟨q, hq, ht⟩
    have hm : mget q.1 S.ld = some q.2 := mem_mget h.nd (by obtain ⟨a, b⟩ := q; exact hq)
    have := h.ld q.1
    rw [hm] at this
    have ht : t ∈ M.told q.1 := by rw [this]; exact ht
    obtain ⟨p, hp, e⟩ := List.mem_map.1 ht
    exact List.any_eq_true.2 ⟨p, (List.mem_filter.1 hp).1, decide_eq_true e⟩

set_option maxRecDepth 100000 in
set_option maxHeartbeats 1000000 in
theorem place_spec {bc : Nat} {S : CS} {M : Mo} {B : Nat} (hR : Rel S M) (hO : M.Ok B) (b : Int) : Con Try.prog 38 [.pointer (some ⟨bc, 0, none⟩), .int .i64 b] (fun w => CR w bc S) [] (fun _ : Unit => .int .i64 (io (M.find b))) (fun _ => True) (fun _ => []) := by
  intro w hC hH
  refine enter (n := 19) (vs := [.pointer (some ⟨bc, 0, none⟩), .int .i64 b]) (St w [] []) Try.func38 rfl rfl rfl (St.init hH) ?_
  refine c_seq ?_
  refine c_region _ rfl ?_
  refine l_q rfl (q_assign rfl rfl) rfl rfl ?_
  refine l_nil ?_
  refine k_then ?_
  refine c_seq ?_
  refine c_region _ rfl ?_
  refine l_q rfl (q_move rfl rfl) rfl rfl ?_
  refine l_q rfl (q_nilCheck rfl rfl) rfl rfl ?_
  refine l_q rfl (q_fieldAddr rfl Try.underlying78 rfl Try.sizeOf73 rfl rfl) rfl rfl ?_
  refine l_q rfl (q_loadC rfl Try.isAgg73 rfl (fun _ h => (CR.keep hC h).c) rfl) rfl rfl ?_
  refine l_q rfl (q_move rfl rfl) rfl rfl ?_
  refine l_q rfl (q_lookupOk (kf := kI) (vf := kI) b rfl Try.underlying73 keyI Try.zeroValue3 rfl rfl (fun _ h => (CR.keep hC h).a)) rfl rfl ?_
  refine l_q rfl (q_move rfl rfl) rfl rfl ?_
  refine l_q rfl (q_extract rfl rfl rfl) rfl rfl ?_
  refine l_q rfl (q_extract rfl rfl rfl) rfl rfl ?_
  refine l_q rfl (q_assign rfl rfl) rfl rfl ?_
  refine l_q rfl (q_assign rfl rfl) rfl rfl ?_
  refine l_nil ?_
  refine k_then ?_
  refine c_seq ?_
  refine c_seq ?_
  refine opt_cases (M.find b) (fun hf => ?_) (fun i hf => ?_)
  · have hm := hR.at' b
    rw [hf, Option.map_none] at hm
    refine Pre.setV (t := 6) (c := .bool false) rfl (by rw [hm]; rfl) ?_
    refine c_region _ rfl ?_
    refine l_q rfl (q_move rfl rfl) rfl rfl ?_
    refine l_q rfl (q_not rfl rfl) rfl rfl ?_
    refine l_nil ?_
    refine k_then ?_
    refine c_true rfl ?_
    refine c_seq ?_
    refine c_region _ rfl ?_
    refine l_q rfl (q_assign rfl rfl) rfl rfl ?_
    refine l_nil ?_
    refine k_then ?_
    refine c_ret ?_
    refine k_then_ret ?_
    refine r_one rfl rfl ?_
    exact fun _ h => ⟨(), congrArg (fun z => Ending.returned (Value.int .i64 z)) (by rw [hf]; rfl), trivial, h⟩
  · have hm := hR.at' b
    rw [hf, Option.map_some] at hm
    refine Pre.setV (t := 6) (c := .bool true) rfl (by rw [hm]; rfl) ?_
    refine Pre.setV (t := 5) (c := .int .i64 (i : Int)) rfl (by rw [hm]) ?_
    refine c_region _ rfl ?_
    refine l_q rfl (q_move rfl rfl) rfl rfl ?_
    refine l_q rfl (q_not rfl rfl) rfl rfl ?_
    refine l_nil ?_
    refine k_then ?_
    refine c_false rfl ?_
    refine c_skip ?_
    refine k_then ?_
    refine c_seq ?_
    refine c_region _ rfl ?_
    refine l_q rfl (q_move rfl rfl) rfl rfl ?_
    refine l_q rfl (q_assign rfl rfl) rfl rfl ?_
    refine l_nil ?_
    refine k_then ?_
    refine c_ret ?_
    refine r_one rfl rfl ?_
    exact fun _ h => ⟨(), congrArg (fun z => Ending.returned (Value.int .i64 z)) (by rw [hf]; rfl), trivial, h⟩
end Go.Proofs.Ytpfbagkjhchojaa
