/- the reference cache: how it lies in memory; its looks -/
import Derived.Test.YtpfbagkjhchojaaL
set_option linter.unusedVariables false
set_option linter.unusedSimpArgs false
namespace Go.Proofs.Ytpfbagkjhchojaa
open Go.Sep Go.RowKit

/-! # The reference's cache in memory -/
structure RS where
  vF : Value
  fl : List FC
  vL : Value
  vO : Value
namespace RS
def cells (R : RS) (M : Mo) : List Value := [R.vF, R.vL, R.vO, .int .i64 M.hand]
def H (br : Nat) (R : RS) (M : Mo) : List Ent := [cellsE br 100 (R.cells M), rowE R.vF 102 FC.encR R.fl, rowE R.vL 138 encP M.line, rowE R.vO 138 encP M.loads]
end RS
structure RC (w : World) (br : Nat) (R : RS) (M : Mo) : Prop where
  c : (cellsE br 100 (R.cells M)).at w
  f : RdV w R.vF FC.encR R.fl
  l : RdV w R.vL encP M.line
  o : RdV w R.vO encP M.loads
theorem RC.ofm {w0 w : World} {D : List Nat} {br : Nat} {R : RS} {M : Mo} {H : List Ent} (h : St w0 D H w) (hs : ∀ e ∈ R.H br M, e ∈ H) : RC w br R M := by
  have m0 : ∀ e (k : Nat), (R.H br M)[k]? = some e → e.at w := fun e k hk => h.hp.holds e (hs e (List.mem_of_getElem? hk))
  exact ⟨m0 _ 0 rfl, rowE_rd (m0 _ 1 rfl), rowE_rd (m0 _ 2 rfl), rowE_rd (m0 _ 3 rfl)⟩
theorem RC.keep {w0 w : World} {br : Nat} {R : RS} {M : Mo} {H : List Ent} (h : RC w0 br R M) (s : St w0 [] H w) : RC w br R M :=
  ⟨cellsE_keep h.c s (by simp), h.f.keep s (by simp), h.l.keep s (by simp), h.o.keep s (by simp)⟩
def RelR (R : RS) (M : Mo) : Prop := R.fl.map vw = M.fr
theorem RelR.len {R : RS} {M : Mo} (h : RelR R M) : R.fl.length = M.fr.length := by rw [← h, List.length_map]
theorem RelR.get {R : RS} {M : Mo} (h : RelR R M) {i : Nat} {y : Vw} (hy : M.fr[i]? = some y) : ∃ f, R.fl[i]? = some f ∧ vw f = y := by
  rw [← h, List.getElem?_map, Option.map_eq_some_iff] at hy; exact hy
theorem RelR.vw_at {R : RS} {M : Mo} (h : RelR R M) {i : Nat} {f : FC} (hf : R.fl[i]? = some f) : M.fr[i]? = some (vw f) := by rw [← h, List.getElem?_map, hf]; rfl
theorem leave_filter {l : List (Int × Int)} (hn : (l.map Prod.fst).Nodup) (t : Int) : (match fst1 (isT t) l with | some i => l.eraseIdx i | none => l) = l.filter (fun q => !decide (q.1 = t)) := by
  induction l with
  | nil => rfl
  | cons a l ih =>
    obtain ⟨h1, h2⟩ := List.nodup_cons.1 hn
    unfold fst1
    rw [List.findIdx?_cons]
    by_cases e : a.1 = t
    · rw [show isT t a = true from decide_eq_true e]
      simp only [if_true, List.eraseIdx_cons_zero, List.filter_cons, e, decide_true, Bool.not_true, Bool.false_eq_true, if_false]
      refine (List.filter_eq_self.2 (fun q hq => ?_)).symm
      have : q.1 ≠ t := fun e2 => h1 (by rw [e, ← e2]; exact List.mem_map.2 ⟨q, hq, rfl⟩)
      simp [this]
    · rw [show isT t a = false from decide_eq_false e]
      have ih' := ih h2
      unfold fst1 at ih'
      simp only [Bool.false_eq_true, if_false, List.filter_cons, e, decide_false, Bool.not_false, if_true]
      rw [← ih']
      cases l.findIdx? (isT t) <;> rfl
theorem leave_line_eq {M : Mo} {B : Nat} (hO : M.Ok B) (t : Int) : (M.leave t).line = M.line.filter (fun q => !decide (q.1 = t)) := leave_filter hO.ln t
theorem filter_snoc {α : Type} {p : α → Bool} {l : List α} {i : Nat} {x : α} (h : l[i]? = some x) : (l.take (i + 1)).filter p = (l.take i).filter p ++ (if p x = true then [x] else []) := by
  rw [List.take_add_one, h, List.filter_append]
  cases hp : p x <;> simp [hp]
/-- What comes of the line when a task asks for a frame. -/
def Mo.tk (M : Mo) (t b : Int) : Mo := if (M.takes t).isSome = true then M.leave t else M.ask t b
theorem find_bk {M : Mo} {B : Nat} (hO : M.Ok B) {b : Int} {i : Nat} (h : M.find b = some i) : bkB b = true := by
  obtain ⟨y, hy, hb, hs, _⟩ := find_at h
  have := hO.blk y (List.mem_of_getElem? hy) hs
  unfold bkB; rw [hb] at this; simp [this.1, this.2]
theorem waits_at (M : Mo) (t : Int) : (fst1 (isT t) M.loads).isSome = M.waits t := by
  unfold fst1 Mo.waits
  rw [List.findIdx?_isSome]

set_option maxRecDepth 100000 in
set_option maxHeartbeats 1000000 in
theorem rat_spec {va : Value} (l : List (Int × Int)) (t : Int) (hn : l.length ≤ 65536) : Con Try.prog 86 [va, .int .i64 t] (fun w => RdV w va encP l) [] (fun _ : Unit => .int .i64 (io (fst1 (isT t) l))) (fun _ => True) (fun _ => []) := by
  intro w hl hH
  refine enter (n := 20) (vs := [va, .int .i64 t]) (St w [] []) Try.func86 rfl rfl rfl (St.init hH) ?_
  refine c_seq ?_
  refine c_region _ rfl ?_
  refine l_q rfl (q_assign rfl rfl) rfl rfl ?_
  refine l_nil ?_
  refine k_then ?_
  refine c_seq ?_
  refine c_seq ?_
  refine c_region _ rfl ?_
  refine l_q rfl (q_assign rfl rfl) rfl rfl ?_
  refine l_nil ?_
  refine k_then ?_
  refine c_block ?_
  refine c_loop1 (fun (i : Nat) => [(0, va), (1, .int .i64 t), (5, .int .i64 (i : Int))]) (fun (i : Nat) => St w [] []) (fun (i : Nat) => i ≤ l.length ∧ ∀ z ∈ l.take i, isT t z = false) (fun (i : Nat) => l.length - i) (0) ⟨Nat.zero_le _, by simp⟩ (Sub.cons rfl (Sub.cons rfl (Sub.cons rfl (Sub.nil)))) (fun _ h => h) ?_
  intro i hp
  refine c_seq ?_
  refine c_seq ?_
  obtain ⟨hi, hno⟩ := hp
  refine c_region _ rfl ?_
  refine l_q rfl (q_move rfl rfl) rfl rfl ?_
  refine l_q rfl (q_move rfl rfl) rfl rfl ?_
  refine l_q rfl (q_lenV rfl Try.underlying98 rfl (fun _ h => hl.keep h (by simp [dom]))) rfl rfl ?_
  refine l_q rfl (q_lss rfl rfl rfl) rfl rfl ?_
  refine l_nil ?_
  refine k_then ?_
  refine Pre.caseB 9 rfl (fun h1 => ?_) (fun h1 => ?_)
  · simp only [decide_eq_true_eq, decide_eq_false_iff_not, Bool.not_eq_true', Bool.not_eq_false'] at h1
    obtain ⟨x, hx⟩ : ∃ x, l[i]? = some x := ⟨_, List.getElem?_eq_getElem (by omega)⟩
    refine c_true rfl ?_
    refine c_skip ?_
    refine k_then ?_
    refine c_seq ?_
    refine c_block ?_
    refine c_seq ?_
    refine c_region _ rfl ?_
    refine l_q rfl (q_move rfl rfl) rfl rfl ?_
    refine l_q rfl (q_move rfl rfl) rfl rfl ?_
    refine l_q rfl (q_indexV i rfl Try.underlying98 Try.sizeOf138 rfl (fun _ h => hl.keep h (by simp [dom])) rfl rfl (by omega)) rfl rfl ?_
    refine l_q rfl (q_fieldAddr rfl Try.underlying138 rfl Try.sizeOf3 rfl rfl) rfl rfl ?_
    refine l_q rfl (q_loadV i 0 rfl Try.isAgg3 rfl rfl (fun _ h => hl.keep h (by simp [dom])) hx rfl) rfl rfl ?_
    refine l_q rfl (q_move rfl rfl) rfl rfl ?_
    refine l_q rfl (q_eql rfl rfl rfl) rfl rfl ?_
    refine l_nil ?_
    refine k_then ?_
    refine Pre.caseB 18 rfl (fun h2 => ?_) (fun h2 => ?_)
    · simp only [decide_eq_true_eq, decide_eq_false_iff_not, Bool.not_eq_true', Bool.not_eq_false'] at h2
      refine c_true rfl ?_
      refine c_seq ?_
      refine c_region _ rfl ?_
      refine l_q rfl (q_move rfl rfl) rfl rfl ?_
      refine l_q rfl (q_assign rfl rfl) rfl rfl ?_
      refine l_nil ?_
      refine k_then ?_
      refine c_ret ?_
      refine k_block_ret ?_
      refine k_then_ret ?_
      refine k_then_ret ?_
      refine k_block_ret ?_
      refine k_then_ret ?_
      refine r_one rfl rfl ?_
      exact fun _ h => ⟨(), congrArg (fun z => Ending.returned (Value.int .i64 z)) (by rw [fst1_some hx (decide_eq_true h2) hno]; rfl), trivial, h⟩
    · simp only [decide_eq_true_eq, decide_eq_false_iff_not, Bool.not_eq_true', Bool.not_eq_false'] at h2
      refine c_false rfl ?_
      refine c_skip ?_
      refine k_block ?_
      refine k_then ?_
      refine c_region _ rfl ?_
      refine l_q rfl (q_move rfl rfl) rfl rfl ?_
      refine l_q rfl (q_inc rfl rfl rfl (by omega)) rfl rfl ?_
      refine l_q rfl (q_assign rfl rfl) rfl rfl ?_
      refine l_nil ?_
      exact k_round (i + 1) (by omega) ⟨by omega, take_none hno hx (decide_eq_false h2)⟩ (Sub.cons rfl (Sub.cons rfl (Sub.cons rfl (Sub.nil)))) (fun _ h => h)
  · simp only [decide_eq_true_eq, decide_eq_false_iff_not, Bool.not_eq_true', Bool.not_eq_false'] at h1
    refine c_false rfl ?_
    refine c_exit ?_
    refine k_then_exit ?_
    refine k_then_exit ?_
    refine k_block_exit ?_
    refine k_then ?_
    refine c_seq ?_
    refine c_region _ rfl ?_
    refine l_q rfl (q_assign rfl rfl) rfl rfl ?_
    refine l_nil ?_
    refine k_then ?_
    refine c_ret ?_
    refine r_one rfl rfl ?_
    exact fun _ h => ⟨(), congrArg (fun z => Ending.returned (Value.int .i64 z)) (by rw [List.take_of_length_le (by omega)] at hno; rw [fst1_none hno]; rfl), trivial, h⟩
set_option maxRecDepth 100000 in
set_option maxHeartbeats 1000000 in
theorem rleave_spec {va : Value} (l : List (Int × Int)) (t : Int) (hn : l.length ≤ 65536) : Con Try.prog 88 [va, .int .i64 t] (fun w => RdV w va encP l) [] (fun v : Value => v) (fun _ => True) (fun v => [rowE v 138 encP (l.filter (fun q => !decide (q.1 = t)))]) := by
  intro w hl hH
  refine enter (n := 28) (vs := [va, .int .i64 t]) (St w [] []) Try.func88 rfl rfl rfl (St.init hH) ?_
  refine c_seq ?_
  refine c_region _ rfl ?_
  refine l_q rfl (q_assign rfl rfl) rfl rfl ?_
  refine l_nil ?_
  refine k_then ?_
  refine c_seq ?_
  refine c_region _ rfl ?_
  refine l_q rfl (q_assign rfl rfl) rfl rfl ?_
  refine l_nil ?_
  refine k_then ?_
  refine c_seq ?_
  refine c_seq ?_
  refine c_region _ rfl ?_
  refine l_q rfl (q_assign rfl rfl) rfl rfl ?_
  refine l_nil ?_
  refine k_then ?_
  refine c_block ?_
  refine row0 138 encP none ?_
  refine c_loop2 (fun (i : Nat) (v : Value) => [(0, va), (1, .int .i64 t), (5, v), (6, .int .i64 (i : Int))]) (fun (i : Nat) (v : Value) => St w [] [rowE v 138 encP ((l.take i).filter (fun q => !decide (q.1 = t)))]) (fun (i : Nat) (v : Value) => i ≤ l.length) (fun (i : Nat) (v : Value) => l.length - i) (0) (.slice none 0 0) (Nat.zero_le _) (Sub.cons rfl (Sub.cons rfl (Sub.cons rfl (Sub.cons rfl (Sub.nil))))) (fun _ h => h) ?_
  intro i v hi
  refine c_seq ?_
  refine c_seq ?_
  have hfl : ((l.take i).filter (fun q => !decide (q.1 = t))).length ≤ i := Nat.le_trans (List.length_filter_le _ _) (List.length_take_le _ _)
  refine c_region _ rfl ?_
  refine l_q rfl (q_move rfl rfl) rfl rfl ?_
  refine l_q rfl (q_move rfl rfl) rfl rfl ?_
  refine l_q rfl (q_lenV rfl Try.underlying98 rfl (fun _ h => hl.keep h (by simp [dom]))) rfl rfl ?_
  refine l_q rfl (q_lss rfl rfl rfl) rfl rfl ?_
  refine l_nil ?_
  refine k_then ?_
  refine Pre.caseB 10 rfl (fun h1 => ?_) (fun h1 => ?_)
  · simp only [decide_eq_true_eq, decide_eq_false_iff_not, Bool.not_eq_true', Bool.not_eq_false'] at h1
    obtain ⟨x, hx⟩ : ∃ x, l[i]? = some x := ⟨_, List.getElem?_eq_getElem (by omega)⟩
    have hfs := filter_snoc (p := fun q : Int × Int => !decide (q.1 = t)) hx
    refine c_true rfl ?_
    refine c_skip ?_
    refine k_then ?_
    refine c_seq ?_
    refine c_block ?_
    refine c_seq ?_
    refine c_region _ rfl ?_
    refine l_q rfl (q_move rfl rfl) rfl rfl ?_
    refine l_q rfl (q_move rfl rfl) rfl rfl ?_
    refine l_q rfl (q_indexV i rfl Try.underlying98 Try.sizeOf138 rfl (fun _ h => hl.keep h (by simp [dom])) rfl rfl (by omega)) rfl rfl ?_
    refine l_q rfl (q_fieldAddr rfl Try.underlying138 rfl Try.sizeOf3 rfl rfl) rfl rfl ?_
    refine l_q rfl (q_loadV i 0 rfl Try.isAgg3 rfl rfl (fun _ h => hl.keep h (by simp [dom])) hx rfl) rfl rfl ?_
    refine l_q rfl (q_move rfl rfl) rfl rfl ?_
    refine l_q rfl (q_neq rfl rfl rfl) rfl rfl ?_
    refine l_nil ?_
    refine k_then ?_
    refine Pre.caseB 19 rfl (fun h2 => ?_) (fun h2 => ?_)
    · simp only [decide_eq_true_eq, decide_eq_false_iff_not, Bool.not_eq_true', Bool.not_eq_false'] at h2
      rw [if_pos (show (!decide (x.1 = t)) = true by rw [decide_eq_false h2]; rfl)] at hfs
      refine c_true rfl ?_
      refine c_region _ rfl ?_
      refine l_q rfl (q_move rfl rfl) rfl rfl ?_
      refine l_q rfl (q_move rfl rfl) rfl rfl ?_
      refine l_q rfl (q_move rfl rfl) rfl rfl ?_
      refine l_q rfl (q_indexV i rfl Try.underlying98 Try.sizeOf138 rfl (fun _ h => hl.keep h (by simp [dom])) rfl rfl (by omega)) rfl rfl ?_
      refine l_q rfl (q_loadVAgg i rfl Try.isAgg138 Try.sizeOf138 rfl rfl (fun _ h => hl.keep h (by simp [dom])) hx) rfl rfl ?_
      refine l_e rfl ?_
      refine e_buildSliceV (sz := 2) [.tmp 24] rfl rfl rfl rfl rfl Try.underlying98 Try.sizeOf138 rfl Try.zeroValue138 rfl ?_
      intro b1
      refine pull1 ?_
      refine l_e rfl ?_
      refine e_append rfl rfl rfl Try.underlying98 Try.underlying98 info138 rfl rfl rfl rfl rfl (fun _ h => lit_rd (h.at 1 rfl) encP [x] rfl rfl) (by simp only [byt138, List.length_append, List.length_cons, List.length_nil]; omega) (by simp only [List.length_append, List.length_cons, List.length_nil]; omega) ?_
      intro v2
      refine row_eq (hfs.symm) ?_
      refine pull1 ?_
      refine drop0 ?_
      refine l_q rfl (q_assign rfl rfl) rfl rfl ?_
      refine l_nil ?_
      refine k_block ?_
      refine k_then ?_
      refine c_region _ rfl ?_
      refine l_q rfl (q_move rfl rfl) rfl rfl ?_
      refine l_q rfl (q_inc rfl rfl rfl (by omega)) rfl rfl ?_
      refine l_q rfl (q_assign rfl rfl) rfl rfl ?_
      refine l_nil ?_
      exact k_round ((i + 1, v2)) (by dsimp only; omega) (by dsimp only; omega) (Sub.cons rfl (Sub.cons rfl (Sub.cons rfl (Sub.cons rfl (Sub.nil))))) (fun _ h => h)
    · simp only [decide_eq_true_eq, decide_eq_false_iff_not, Bool.not_eq_true', Bool.not_eq_false'] at h2
      have hxt : x.1 = t := by simpa using h2
      rw [if_neg (show ¬ (!decide (x.1 = t)) = true by rw [decide_eq_true hxt]; decide), List.append_nil] at hfs
      refine c_false rfl ?_
      refine c_skip ?_
      refine k_block ?_
      refine k_then ?_
      refine c_region _ rfl ?_
      refine l_q rfl (q_move rfl rfl) rfl rfl ?_
      refine l_q rfl (q_inc rfl rfl rfl (by omega)) rfl rfl ?_
      refine l_q rfl (q_assign rfl rfl) rfl rfl ?_
      refine l_nil ?_
      exact k_round ((i + 1, v)) (by dsimp only; omega) (by dsimp only; omega) (Sub.cons rfl (Sub.cons rfl (Sub.cons rfl (Sub.cons rfl (Sub.nil))))) (fun _ h => by dsimp only; rw [hfs]; exact h)
  · simp only [decide_eq_true_eq, decide_eq_false_iff_not, Bool.not_eq_true', Bool.not_eq_false'] at h1
    rw [List.take_of_length_le (show l.length ≤ i by omega)]
    refine c_false rfl ?_
    refine c_exit ?_
    refine k_then_exit ?_
    refine k_then_exit ?_
    refine k_block_exit ?_
    refine k_then ?_
    refine c_seq ?_
    refine c_region _ rfl ?_
    refine l_q rfl (q_move rfl rfl) rfl rfl ?_
    refine l_q rfl (q_assign rfl rfl) rfl rfl ?_
    refine l_nil ?_
    refine k_then ?_
    refine c_ret ?_
    refine r_one rfl rfl ?_
    exact fun _ h => ⟨v, rfl, trivial, h⟩
set_option maxRecDepth 100000 in
set_option maxHeartbeats 1000000 in
theorem rfind_spec {br : Nat} {R : RS} {M : Mo} {B : Nat} (hR : RelR R M) (hO : M.Ok B) (b : Int) : Con Try.prog 87 [.pointer (some ⟨br, 0, none⟩), .int .i64 b] (fun w => RC w br R M) [] (fun _ : Unit => .int .i64 (io (M.find b))) (fun _ => True) (fun _ => []) := by
  intro w hE hH
  have hC := hE
  refine enter (n := 48) (vs := [.pointer (some ⟨br, 0, none⟩), .int .i64 b]) (St w [] []) Try.func87 rfl rfl rfl (St.init hH) ?_
  refine c_seq ?_
  have hfl := hR.len
  have h64 := hO.n64
  have hB9 := hO.B9
  have hlB := hO.lB
  have hlL := hO.ll
  refine c_region _ rfl ?_
  refine l_q rfl (q_assign rfl rfl) rfl rfl ?_
  refine l_nil ?_
  refine k_then ?_
  refine c_seq ?_
  refine c_seq ?_
  refine c_region _ rfl ?_
  refine l_q rfl (q_assign rfl rfl) rfl rfl ?_
  refine l_nil ?_
  refine k_then ?_
  refine c_block ?_
  refine c_loop1 (fun (i : Nat) => [(0, .pointer (some ⟨br, 0, none⟩)), (1, .int .i64 b), (5, .int .i64 (i : Int))]) (fun (i : Nat) => St w [] []) (fun (i : Nat) => i ≤ R.fl.length ∧ ∀ z ∈ M.fr.take i, isB b z = false) (fun (i : Nat) => R.fl.length - i) (0) ⟨Nat.zero_le _, by simp⟩ (Sub.cons rfl (Sub.cons rfl (Sub.cons rfl (Sub.nil)))) (fun _ h => h) ?_
  intro i hp
  refine c_seq ?_
  refine c_seq ?_
  obtain ⟨hi, hno⟩ := hp
  refine c_region _ rfl ?_
  refine l_q rfl (q_move rfl rfl) rfl rfl ?_
  refine l_q rfl (q_move rfl rfl) rfl rfl ?_
  refine l_q rfl (q_nilCheck rfl rfl) rfl rfl ?_
  refine l_q rfl (q_fieldAddr rfl Try.underlying100 rfl Try.sizeOf97 rfl rfl) rfl rfl ?_
  refine l_q rfl (q_loadC rfl Try.isAgg97 rfl (fun _ h => (RC.keep hC h).c) rfl) rfl rfl ?_
  refine l_q rfl (q_lenV rfl Try.underlying97 rfl (fun _ h => hC.f.keep h (by simp [dom]))) rfl rfl ?_
  refine l_q rfl (q_lss rfl rfl rfl) rfl rfl ?_
  refine l_nil ?_
  refine k_then ?_
  refine Pre.caseB 12 rfl (fun h1 => ?_) (fun h1 => ?_)
  · try simp only [decide_eq_true_eq, decide_eq_false_iff_not, Bool.not_eq_true', Bool.not_eq_false'] at h1
    obtain ⟨f, hfi⟩ : ∃ f, R.fl[i]? = some f := ⟨_, List.getElem?_eq_getElem (by omega)⟩
    have hv := hR.vw_at hfi
    refine c_true rfl ?_
    refine c_skip ?_
    refine k_then ?_
    refine c_seq ?_
    refine c_block ?_
    refine c_seq ?_
    refine c_region _ rfl ?_
    refine l_q rfl (q_move rfl rfl) rfl rfl ?_
    refine l_q rfl (q_nilCheck rfl rfl) rfl rfl ?_
    refine l_q rfl (q_fieldAddr rfl Try.underlying100 rfl Try.sizeOf97 rfl rfl) rfl rfl ?_
    refine l_q rfl (q_loadC rfl Try.isAgg97 rfl (fun _ h => (RC.keep hC h).c) rfl) rfl rfl ?_
    refine l_q rfl (q_move rfl rfl) rfl rfl ?_
    refine l_q rfl (q_indexV i rfl Try.underlying97 Try.sizeOf102 rfl (fun _ h => hC.f.keep h (by simp [dom])) rfl rfl (by omega)) rfl rfl ?_
    refine l_q rfl (q_fieldAddr rfl Try.underlying102 rfl Try.sizeOf3 rfl rfl) rfl rfl ?_
    refine l_q rfl (q_loadV i 1 rfl Try.isAgg3 rfl rfl (fun _ h => hC.f.keep h (by simp [dom])) hfi rfl) rfl rfl ?_
    refine l_q rfl (q_move rfl rfl) rfl rfl ?_
    refine l_q rfl (q_eql rfl rfl rfl) rfl rfl ?_
    refine l_q rfl (q_move rfl rfl) rfl rfl ?_
    refine Pre.caseB 25 rfl (fun g0 => ?_) (fun g0 => ?_)
    · try simp only [decide_eq_true_eq, decide_eq_false_iff_not, Bool.not_eq_true', Bool.not_eq_false'] at g0
      refine l_q rfl (q_move rfl rfl) rfl rfl ?_
      refine l_q rfl (q_nilCheck rfl rfl) rfl rfl ?_
      refine l_q rfl (q_fieldAddr rfl Try.underlying100 rfl Try.sizeOf97 rfl rfl) rfl rfl ?_
      refine l_q rfl (q_loadC rfl Try.isAgg97 rfl (fun _ h => (RC.keep hC h).c) rfl) rfl rfl ?_
      refine l_q rfl (q_move rfl rfl) rfl rfl ?_
      refine l_q rfl (q_indexV i rfl Try.underlying97 Try.sizeOf102 rfl (fun _ h => hC.f.keep h (by simp [dom])) rfl rfl (by omega)) rfl rfl ?_
      refine l_q rfl (q_fieldAddr rfl Try.underlying102 rfl Try.sizeOf3 rfl rfl) rfl rfl ?_
      refine l_q rfl (q_loadV i 0 rfl Try.isAgg3 rfl rfl (fun _ h => hC.f.keep h (by simp [dom])) hfi rfl) rfl rfl ?_
      refine l_q rfl (q_eql rfl rfl rfl) rfl rfl ?_
      refine l_q rfl (q_move rfl rfl) rfl rfl ?_
      refine Pre.caseB 35 rfl (fun g1 => ?_) (fun g1 => ?_)
      · try simp only [decide_eq_true_eq, decide_eq_false_iff_not, Bool.not_eq_true', Bool.not_eq_false'] at g1
        refine l_not rfl rfl rfl ?_
        refine l_not rfl rfl rfl ?_
        refine l_not rfl rfl rfl ?_
        refine l_not rfl rfl rfl ?_
        refine l_not rfl rfl rfl ?_
        refine l_not rfl rfl rfl ?_
        refine l_not rfl rfl rfl ?_
        refine l_not rfl rfl rfl ?_
        refine l_not rfl rfl rfl ?_
        refine l_q rfl (q_pick_t rfl rfl rfl) rfl rfl ?_
        refine l_q rfl (q_pick_t rfl rfl rfl) rfl rfl ?_
        refine l_nil ?_
        refine k_then ?_
        refine c_true rfl ?_
        refine c_seq ?_
        refine c_region _ rfl ?_
        refine l_q rfl (q_move rfl rfl) rfl rfl ?_
        refine l_q rfl (q_assign rfl rfl) rfl rfl ?_
        refine l_nil ?_
        refine k_then ?_
        refine c_ret ?_
        refine k_block_ret ?_
        refine k_then_ret ?_
        refine k_then_ret ?_
        refine k_block_ret ?_
        refine k_then_ret ?_
        refine r_one rfl rfl ?_
        exact fun _ h => ⟨(), congrArg (fun z => Ending.returned (Value.int .i64 z)) (by unfold Mo.find; rw [fst1_some hv (by simp [isB, isF, vw, g0, g1]) hno]; rfl), trivial, h.nothing⟩
      · try simp only [decide_eq_true_eq, decide_eq_false_iff_not, Bool.not_eq_true', Bool.not_eq_false'] at g1
        refine l_q rfl (q_move rfl rfl) rfl rfl ?_
        refine l_q rfl (q_nilCheck rfl rfl) rfl rfl ?_
        refine l_q rfl (q_fieldAddr rfl Try.underlying100 rfl Try.sizeOf97 rfl rfl) rfl rfl ?_
        refine l_q rfl (q_loadC rfl Try.isAgg97 rfl (fun _ h => (RC.keep hC h).c) rfl) rfl rfl ?_
        refine l_q rfl (q_move rfl rfl) rfl rfl ?_
        refine l_q rfl (q_indexV i rfl Try.underlying97 Try.sizeOf102 rfl (fun _ h => hC.f.keep h (by simp [dom])) rfl rfl (by omega)) rfl rfl ?_
        refine l_q rfl (q_fieldAddr rfl Try.underlying102 rfl Try.sizeOf3 rfl rfl) rfl rfl ?_
        refine l_q rfl (q_loadV i 0 rfl Try.isAgg3 rfl rfl (fun _ h => hC.f.keep h (by simp [dom])) hfi rfl) rfl rfl ?_
        refine l_q rfl (q_eql rfl rfl rfl) rfl rfl ?_
        refine l_q rfl (q_pick_f rfl rfl rfl) rfl rfl ?_
        refine l_q rfl (q_pick_t rfl rfl rfl) rfl rfl ?_
        refine l_nil ?_
        refine k_then ?_
        refine Pre.caseB 46 rfl (fun g2 => ?_) (fun g2 => ?_)
        · try simp only [decide_eq_true_eq, decide_eq_false_iff_not, Bool.not_eq_true', Bool.not_eq_false'] at g2
          refine c_true rfl ?_
          refine c_seq ?_
          refine c_region _ rfl ?_
          refine l_q rfl (q_move rfl rfl) rfl rfl ?_
          refine l_q rfl (q_assign rfl rfl) rfl rfl ?_
          refine l_nil ?_
          refine k_then ?_
          refine c_ret ?_
          refine k_block_ret ?_
          refine k_then_ret ?_
          refine k_then_ret ?_
          refine k_block_ret ?_
          refine k_then_ret ?_
          refine r_one rfl rfl ?_
          exact fun _ h => ⟨(), congrArg (fun z => Ending.returned (Value.int .i64 z)) (by unfold Mo.find; rw [fst1_some hv (by simp [isB, isF, vw, g0, g1, g2]) hno]; rfl), trivial, h.nothing⟩
        · try simp only [decide_eq_true_eq, decide_eq_false_iff_not, Bool.not_eq_true', Bool.not_eq_false'] at g2
          refine c_false rfl ?_
          refine c_skip ?_
          refine k_block ?_
          refine k_then ?_
          refine c_region _ rfl ?_
          refine l_q rfl (q_move rfl rfl) rfl rfl ?_
          refine l_q rfl (q_inc rfl rfl rfl (by omega)) rfl rfl ?_
          refine l_q rfl (q_assign rfl rfl) rfl rfl ?_
          refine l_nil ?_
          exact k_round (i + 1) (by omega) ⟨by omega, take_none hno hv (by simp [isB, isF, vw, g0, g1, g2])⟩ (Sub.cons rfl (Sub.cons rfl (Sub.cons rfl (Sub.nil)))) (fun _ h => h)
    · try simp only [decide_eq_true_eq, decide_eq_false_iff_not, Bool.not_eq_true', Bool.not_eq_false'] at g0
      refine l_not rfl rfl rfl ?_
      refine l_not rfl rfl rfl ?_
      refine l_not rfl rfl rfl ?_
      refine l_not rfl rfl rfl ?_
      refine l_not rfl rfl rfl ?_
      refine l_not rfl rfl rfl ?_
      refine l_not rfl rfl rfl ?_
      refine l_not rfl rfl rfl ?_
      refine l_not rfl rfl rfl ?_
      refine l_not rfl rfl rfl ?_
      refine l_not rfl rfl rfl ?_
      refine l_not rfl rfl rfl ?_
      refine l_not rfl rfl rfl ?_
      refine l_not rfl rfl rfl ?_
      refine l_not rfl rfl rfl ?_
      refine l_not rfl rfl rfl ?_
      refine l_not rfl rfl rfl ?_
      refine l_not rfl rfl rfl ?_
      refine l_not rfl rfl rfl ?_
      refine l_not rfl rfl rfl ?_
      refine l_q rfl (q_pick_f rfl rfl rfl) rfl rfl ?_
      refine l_nil ?_
      refine k_then ?_
      refine c_false rfl ?_
      refine c_skip ?_
      refine k_block ?_
      refine k_then ?_
      refine c_region _ rfl ?_
      refine l_q rfl (q_move rfl rfl) rfl rfl ?_
      refine l_q rfl (q_inc rfl rfl rfl (by omega)) rfl rfl ?_
      refine l_q rfl (q_assign rfl rfl) rfl rfl ?_
      refine l_nil ?_
      exact k_round (i + 1) (by omega) ⟨by omega, take_none hno hv (by simp [isB, isF, vw, g0])⟩ (Sub.cons rfl (Sub.cons rfl (Sub.cons rfl (Sub.nil)))) (fun _ h => h)
  · try simp only [decide_eq_true_eq, decide_eq_false_iff_not, Bool.not_eq_true', Bool.not_eq_false'] at h1
    refine c_false rfl ?_
    refine c_exit ?_
    refine k_then_exit ?_
    refine k_then_exit ?_
    refine k_block_exit ?_
    refine k_then ?_
    refine c_seq ?_
    refine c_region _ rfl ?_
    refine l_q rfl (q_assign rfl rfl) rfl rfl ?_
    refine l_nil ?_
    refine k_then ?_
    refine c_ret ?_
    refine r_one rfl rfl ?_
    exact fun _ h => ⟨(), congrArg (fun z => Ending.returned (Value.int .i64 z)) (by rw [List.take_of_length_le (by omega)] at hno; unfold Mo.find; rw [fst1_none hno]; rfl), trivial, h.nothing⟩
set_option maxRecDepth 100000 in
set_option maxHeartbeats 1000000 in
theorem rfreei_spec {br : Nat} {R : RS} {M : Mo} {B : Nat} (hR : RelR R M) (hO : M.Ok B) : Con Try.prog 90 [.pointer (some ⟨br, 0, none⟩)] (fun w => RC w br R M) [] (fun _ : Unit => .int .i64 (io M.freeI)) (fun _ => True) (fun _ => []) := by
  intro w hE hH
  have hC := hE
  refine enter (n := 23) (vs := [.pointer (some ⟨br, 0, none⟩)]) (St w [] []) Try.func90 rfl rfl rfl (St.init hH) ?_
  refine c_seq ?_
  have hfl := hR.len
  have h64 := hO.n64
  have hB9 := hO.B9
  have hlB := hO.lB
  have hlL := hO.ll
  refine c_region _ rfl ?_
  refine l_q rfl (q_assign rfl rfl) rfl rfl ?_
  refine l_nil ?_
  refine k_then ?_
  refine c_seq ?_
  refine c_seq ?_
  refine c_region _ rfl ?_
  refine l_q rfl (q_assign rfl rfl) rfl rfl ?_
  refine l_nil ?_
  refine k_then ?_
  refine c_block ?_
  refine c_loop1 (fun (i : Nat) => [(0, .pointer (some ⟨br, 0, none⟩)), (3, .int .i64 (i : Int))]) (fun (i : Nat) => St w [] []) (fun (i : Nat) => i ≤ R.fl.length ∧ ∀ z ∈ M.fr.take i, isF z = false) (fun (i : Nat) => R.fl.length - i) (0) ⟨Nat.zero_le _, by simp⟩ (Sub.cons rfl (Sub.cons rfl (Sub.nil))) (fun _ h => h) ?_
  intro i hp
  refine c_seq ?_
  refine c_seq ?_
  obtain ⟨hi, hno⟩ := hp
  refine c_region _ rfl ?_
  refine l_q rfl (q_move rfl rfl) rfl rfl ?_
  refine l_q rfl (q_move rfl rfl) rfl rfl ?_
  refine l_q rfl (q_nilCheck rfl rfl) rfl rfl ?_
  refine l_q rfl (q_fieldAddr rfl Try.underlying100 rfl Try.sizeOf97 rfl rfl) rfl rfl ?_
  refine l_q rfl (q_loadC rfl Try.isAgg97 rfl (fun _ h => (RC.keep hC h).c) rfl) rfl rfl ?_
  refine l_q rfl (q_lenV rfl Try.underlying97 rfl (fun _ h => hC.f.keep h (by simp [dom]))) rfl rfl ?_
  refine l_q rfl (q_lss rfl rfl rfl) rfl rfl ?_
  refine l_nil ?_
  refine k_then ?_
  refine Pre.caseB 10 rfl (fun h1 => ?_) (fun h1 => ?_)
  · try simp only [decide_eq_true_eq, decide_eq_false_iff_not, Bool.not_eq_true', Bool.not_eq_false'] at h1
    obtain ⟨f, hfi⟩ : ∃ f, R.fl[i]? = some f := ⟨_, List.getElem?_eq_getElem (by omega)⟩
    have hv := hR.vw_at hfi
    refine c_true rfl ?_
    refine c_skip ?_
    refine k_then ?_
    refine c_seq ?_
    refine c_block ?_
    refine c_seq ?_
    refine c_region _ rfl ?_
    refine l_q rfl (q_move rfl rfl) rfl rfl ?_
    refine l_q rfl (q_nilCheck rfl rfl) rfl rfl ?_
    refine l_q rfl (q_fieldAddr rfl Try.underlying100 rfl Try.sizeOf97 rfl rfl) rfl rfl ?_
    refine l_q rfl (q_loadC rfl Try.isAgg97 rfl (fun _ h => (RC.keep hC h).c) rfl) rfl rfl ?_
    refine l_q rfl (q_move rfl rfl) rfl rfl ?_
    refine l_q rfl (q_indexV i rfl Try.underlying97 Try.sizeOf102 rfl (fun _ h => hC.f.keep h (by simp [dom])) rfl rfl (by omega)) rfl rfl ?_
    refine l_q rfl (q_fieldAddr rfl Try.underlying102 rfl Try.sizeOf3 rfl rfl) rfl rfl ?_
    refine l_q rfl (q_loadV i 0 rfl Try.isAgg3 rfl rfl (fun _ h => hC.f.keep h (by simp [dom])) hfi rfl) rfl rfl ?_
    refine l_q rfl (q_eql rfl rfl rfl) rfl rfl ?_
    refine l_nil ?_
    refine k_then ?_
    refine Pre.caseB 21 rfl (fun g0 => ?_) (fun g0 => ?_)
    · try simp only [decide_eq_true_eq, decide_eq_false_iff_not, Bool.not_eq_true', Bool.not_eq_false'] at g0
      refine c_true rfl ?_
      refine c_seq ?_
      refine c_region _ rfl ?_
      refine l_q rfl (q_move rfl rfl) rfl rfl ?_
      refine l_q rfl (q_assign rfl rfl) rfl rfl ?_
      refine l_nil ?_
      refine k_then ?_
      refine c_ret ?_
      refine k_block_ret ?_
      refine k_then_ret ?_
      refine k_then_ret ?_
      refine k_block_ret ?_
      refine k_then_ret ?_
      refine r_one rfl rfl ?_
      exact fun _ h => ⟨(), congrArg (fun z => Ending.returned (Value.int .i64 z)) (by unfold Mo.freeI; rw [fst1_some hv (by simp [isB, isF, vw, g0]) hno]; rfl), trivial, h.nothing⟩
    · try simp only [decide_eq_true_eq, decide_eq_false_iff_not, Bool.not_eq_true', Bool.not_eq_false'] at g0
      refine c_false rfl ?_
      refine c_skip ?_
      refine k_block ?_
      refine k_then ?_
      refine c_region _ rfl ?_
      refine l_q rfl (q_move rfl rfl) rfl rfl ?_
      refine l_q rfl (q_inc rfl rfl rfl (by omega)) rfl rfl ?_
      refine l_q rfl (q_assign rfl rfl) rfl rfl ?_
      refine l_nil ?_
      exact k_round (i + 1) (by omega) ⟨by omega, take_none hno hv (by simp [isB, isF, vw, g0])⟩ (Sub.cons rfl (Sub.cons rfl (Sub.nil))) (fun _ h => h)
  · try simp only [decide_eq_true_eq, decide_eq_false_iff_not, Bool.not_eq_true', Bool.not_eq_false'] at h1
    refine c_false rfl ?_
    refine c_exit ?_
    refine k_then_exit ?_
    refine k_then_exit ?_
    refine k_block_exit ?_
    refine k_then ?_
    refine c_seq ?_
    refine c_region _ rfl ?_
    refine l_q rfl (q_assign rfl rfl) rfl rfl ?_
    refine l_nil ?_
    refine k_then ?_
    refine c_ret ?_
    refine r_one rfl rfl ?_
    exact fun _ h => ⟨(), congrArg (fun z => Ending.returned (Value.int .i64 z)) (by rw [List.take_of_length_le (by omega)] at hno; unfold Mo.freeI; rw [fst1_none hno]; rfl), trivial, h.nothing⟩
set_option maxRecDepth 100000 in
set_option maxHeartbeats 1000000 in
theorem rfreen_spec {br : Nat} {R : RS} {M : Mo} {B : Nat} (hR : RelR R M) (hO : M.Ok B) : Con Try.prog 61 [.pointer (some ⟨br, 0, none⟩)] (fun w => RC w br R M) [] (fun _ : Unit => .int .i64 (M.free : Int)) (fun _ => True) (fun _ => []) := by
  intro w hE hH
  have hC := hE
  refine enter (n := 26) (vs := [.pointer (some ⟨br, 0, none⟩)]) (St w [] []) Try.func61 rfl rfl rfl (St.init hH) ?_
  refine c_seq ?_
  have hfl := hR.len
  have h64 := hO.n64
  have hB9 := hO.B9
  have hlB := hO.lB
  have hlL := hO.ll
  refine c_region _ rfl ?_
  refine l_q rfl (q_assign rfl rfl) rfl rfl ?_
  refine l_nil ?_
  refine k_then ?_
  refine c_seq ?_
  refine c_region _ rfl ?_
  refine l_q rfl (q_assign rfl rfl) rfl rfl ?_
  refine l_nil ?_
  refine k_then ?_
  refine c_seq ?_
  refine c_seq ?_
  refine c_region _ rfl ?_
  refine l_q rfl (q_assign rfl rfl) rfl rfl ?_
  refine l_nil ?_
  refine k_then ?_
  refine c_block ?_
  refine c_loop1 (fun (i : Nat) => [(0, .pointer (some ⟨br, 0, none⟩)), (3, .int .i64 (((M.fr.take i).countP isF) : Int)), (4, .int .i64 (i : Int))]) (fun (i : Nat) => St w [] []) (fun (i : Nat) => i ≤ R.fl.length) (fun (i : Nat) => R.fl.length - i) (0) (Nat.zero_le _) (Sub.cons rfl (Sub.cons rfl (Sub.cons rfl (Sub.nil)))) (fun _ h => h) ?_
  intro i hi
  refine c_seq ?_
  refine c_seq ?_
  have hcl : ((M.fr.take i).countP isF) ≤ (M.fr.take i).length := List.countP_le_length
  have htl := List.length_take_le i M.fr
  refine c_region _ rfl ?_
  refine l_q rfl (q_move rfl rfl) rfl rfl ?_
  refine l_q rfl (q_move rfl rfl) rfl rfl ?_
  refine l_q rfl (q_nilCheck rfl rfl) rfl rfl ?_
  refine l_q rfl (q_fieldAddr rfl Try.underlying100 rfl Try.sizeOf97 rfl rfl) rfl rfl ?_
  refine l_q rfl (q_loadC rfl Try.isAgg97 rfl (fun _ h => (RC.keep hC h).c) rfl) rfl rfl ?_
  refine l_q rfl (q_lenV rfl Try.underlying97 rfl (fun _ h => hC.f.keep h (by simp [dom]))) rfl rfl ?_
  refine l_q rfl (q_lss rfl rfl rfl) rfl rfl ?_
  refine l_nil ?_
  refine k_then ?_
  refine Pre.caseB 11 rfl (fun h1 => ?_) (fun h1 => ?_)
  · try simp only [decide_eq_true_eq, decide_eq_false_iff_not, Bool.not_eq_true', Bool.not_eq_false'] at h1
    obtain ⟨f, hfi⟩ : ∃ f, R.fl[i]? = some f := ⟨_, List.getElem?_eq_getElem (by omega)⟩
    have hv := hR.vw_at hfi
    have hcs := countP_snoc (p := isF) hv
    refine c_true rfl ?_
    refine c_skip ?_
    refine k_then ?_
    refine c_seq ?_
    refine c_block ?_
    refine c_seq ?_
    refine c_region _ rfl ?_
    refine l_q rfl (q_move rfl rfl) rfl rfl ?_
    refine l_q rfl (q_nilCheck rfl rfl) rfl rfl ?_
    refine l_q rfl (q_fieldAddr rfl Try.underlying100 rfl Try.sizeOf97 rfl rfl) rfl rfl ?_
    refine l_q rfl (q_loadC rfl Try.isAgg97 rfl (fun _ h => (RC.keep hC h).c) rfl) rfl rfl ?_
    refine l_q rfl (q_move rfl rfl) rfl rfl ?_
    refine l_q rfl (q_indexV i rfl Try.underlying97 Try.sizeOf102 rfl (fun _ h => hC.f.keep h (by simp [dom])) rfl rfl (by omega)) rfl rfl ?_
    refine l_q rfl (q_fieldAddr rfl Try.underlying102 rfl Try.sizeOf3 rfl rfl) rfl rfl ?_
    refine l_q rfl (q_loadV i 0 rfl Try.isAgg3 rfl rfl (fun _ h => hC.f.keep h (by simp [dom])) hfi rfl) rfl rfl ?_
    refine l_q rfl (q_eql rfl rfl rfl) rfl rfl ?_
    refine l_nil ?_
    refine k_then ?_
    refine Pre.caseB 22 rfl (fun h2 => ?_) (fun h2 => ?_)
    · try simp only [decide_eq_true_eq, decide_eq_false_iff_not, Bool.not_eq_true', Bool.not_eq_false'] at h2
      refine c_true rfl ?_
      refine c_region _ rfl ?_
      refine l_q rfl (q_move rfl rfl) rfl rfl ?_
      refine l_q rfl (q_inc rfl rfl rfl (by omega)) rfl rfl ?_
      refine l_q rfl (q_assign rfl rfl) rfl rfl ?_
      refine l_nil ?_
      refine k_block ?_
      refine k_then ?_
      refine c_region _ rfl ?_
      refine l_q rfl (q_move rfl rfl) rfl rfl ?_
      refine l_q rfl (q_inc rfl rfl rfl (by omega)) rfl rfl ?_
      refine l_q rfl (q_assign rfl rfl) rfl rfl ?_
      refine l_nil ?_
      exact k_round (i + 1) (by omega) (by omega) (Sub.cons rfl (Sub.consE rfl (by rw [hcs, if_pos (show isF (vw f) = true from decide_eq_true h2)]) (Sub.cons rfl Sub.nil))) (fun _ h => h)
    · try simp only [decide_eq_true_eq, decide_eq_false_iff_not, Bool.not_eq_true', Bool.not_eq_false'] at h2
      refine c_false rfl ?_
      refine c_skip ?_
      refine k_block ?_
      refine k_then ?_
      refine c_region _ rfl ?_
      refine l_q rfl (q_move rfl rfl) rfl rfl ?_
      refine l_q rfl (q_inc rfl rfl rfl (by omega)) rfl rfl ?_
      refine l_q rfl (q_assign rfl rfl) rfl rfl ?_
      refine l_nil ?_
      exact k_round (i + 1) (by omega) (by omega) (Sub.cons rfl (Sub.consE rfl (by rw [hcs, if_neg (show ¬ isF (vw f) = true from fun e => h2 (of_decide_eq_true e)), Nat.add_zero]) (Sub.cons rfl Sub.nil))) (fun _ h => h)
  · try simp only [decide_eq_true_eq, decide_eq_false_iff_not, Bool.not_eq_true', Bool.not_eq_false'] at h1
    refine c_false rfl ?_
    refine c_exit ?_
    refine k_then_exit ?_
    refine k_then_exit ?_
    refine k_block_exit ?_
    refine k_then ?_
    refine c_seq ?_
    refine c_region _ rfl ?_
    refine l_q rfl (q_move rfl rfl) rfl rfl ?_
    refine l_q rfl (q_assign rfl rfl) rfl rfl ?_
    refine l_nil ?_
    refine k_then ?_
    refine c_ret ?_
    refine r_one rfl rfl ?_
    exact fun _ h => ⟨(), congrArg (fun z => Ending.returned (Value.int .i64 z)) (by rw [List.take_of_length_le (by omega)]; rfl), trivial, h.nothing⟩
set_option maxRecDepth 100000 in
set_option maxHeartbeats 1000000 in
theorem rready_spec {br : Nat} {R : RS} {M : Mo} {B : Nat} (hR : RelR R M) (hO : M.Ok B) (b : Int) : Con Try.prog 65 [.pointer (some ⟨br, 0, none⟩), .int .i64 b] (fun w => RC w br R M) [] (fun _ : Unit => .int .i64 (io (M.frI b 2))) (fun _ => True) (fun _ => []) := by
  intro w hE hH
  have hC := hE
  refine enter (n := 28) (vs := [.pointer (some ⟨br, 0, none⟩), .int .i64 b]) (St w [] []) Try.func65 rfl rfl rfl (St.init hH) ?_
  refine c_seq ?_
  have hfl := hR.len
  have h64 := hO.n64
  have hB9 := hO.B9
  have hlB := hO.lB
  have hlL := hO.ll
  refine c_region _ rfl ?_
  refine l_q rfl (q_assign rfl rfl) rfl rfl ?_
  refine l_nil ?_
  refine k_then ?_
  refine c_seq ?_
  refine c_region _ rfl ?_
  refine l_q rfl (q_move rfl rfl) rfl rfl ?_
  refine l_q rfl (q_move rfl rfl) rfl rfl ?_
  refine l_e rfl ?_
  refine e_call_00 (rfind_spec hR hO b) rfl rfl rfl Try.call87 rfl (fun _ h => RC.keep hC h) ?_
  intro _ _
  refine l_q rfl (q_assign rfl rfl) rfl rfl ?_
  refine l_nil ?_
  refine k_then ?_
  refine c_seq ?_
  refine c_seq ?_
  refine opt_cases (M.find b) (fun hf => ?_) (fun i hf => ?_)
  · refine Pre.setV (t := 5) (c := .int .i64 (-1)) rfl (by rw [hf]; rfl) ?_
    refine c_region _ rfl ?_
    refine l_q rfl (q_move rfl rfl) rfl rfl ?_
    refine l_e rfl ?_
    refine e_call_00 (rblock_spec b) rfl rfl rfl Try.call85 rfl (fun _ _ => trivial) ?_
    intro _ _
    refine l_q rfl (q_not rfl rfl) rfl rfl ?_
    refine l_q rfl (q_move rfl rfl) rfl rfl ?_
    refine Pre.caseB 12 rfl (fun hb => ?_) (fun hb => ?_)
    · try simp only [decide_eq_true_eq, decide_eq_false_iff_not, Bool.not_eq_true', Bool.not_eq_false'] at hb
      refine l_not rfl rfl rfl ?_
      refine l_not rfl rfl rfl ?_
      refine l_q rfl (q_pick_t rfl rfl rfl) rfl rfl ?_
      refine l_q rfl (q_move rfl rfl) rfl rfl ?_
      refine l_not rfl rfl rfl ?_
      refine l_not rfl rfl rfl ?_
      refine l_not rfl rfl rfl ?_
      refine l_not rfl rfl rfl ?_
      refine l_not rfl rfl rfl ?_
      refine l_not rfl rfl rfl ?_
      refine l_not rfl rfl rfl ?_
      refine l_not rfl rfl rfl ?_
      refine l_not rfl rfl rfl ?_
      refine l_q rfl (q_pick_t rfl rfl rfl) rfl rfl ?_
      refine l_nil ?_
      refine k_then ?_
      refine c_true rfl ?_
      refine c_seq ?_
      refine c_region _ rfl ?_
      refine l_q rfl (q_assign rfl rfl) rfl rfl ?_
      refine l_nil ?_
      refine k_then ?_
      refine c_ret ?_
      refine k_then_ret ?_
      refine r_one rfl rfl ?_
      exact fun _ h => ⟨(), congrArg (fun z => Ending.returned (Value.int .i64 z)) (by unfold Mo.frI; rw [hf]; rfl), trivial, h.nothing⟩
    · try simp only [decide_eq_true_eq, decide_eq_false_iff_not, Bool.not_eq_true', Bool.not_eq_false'] at hb
      refine l_q rfl (q_move rfl rfl) rfl rfl ?_
      refine l_q rfl (q_lss rfl rfl rfl) rfl rfl ?_
      refine l_q rfl (q_pick_f rfl rfl rfl) rfl rfl ?_
      refine l_q rfl (q_move rfl rfl) rfl rfl ?_
      refine Pre.setB (t := 16) (c := true) rfl (rfl) ?_
      refine l_not rfl rfl rfl ?_
      refine l_not rfl rfl rfl ?_
      refine l_not rfl rfl rfl ?_
      refine l_not rfl rfl rfl ?_
      refine l_not rfl rfl rfl ?_
      refine l_not rfl rfl rfl ?_
      refine l_not rfl rfl rfl ?_
      refine l_not rfl rfl rfl ?_
      refine l_not rfl rfl rfl ?_
      refine l_q rfl (q_pick_t rfl rfl rfl) rfl rfl ?_
      refine l_nil ?_
      refine k_then ?_
      refine c_true rfl ?_
      refine c_seq ?_
      refine c_region _ rfl ?_
      refine l_q rfl (q_assign rfl rfl) rfl rfl ?_
      refine l_nil ?_
      refine k_then ?_
      refine c_ret ?_
      refine k_then_ret ?_
      refine r_one rfl rfl ?_
      exact fun _ h => ⟨(), congrArg (fun z => Ending.returned (Value.int .i64 z)) (by unfold Mo.frI; rw [hf]; rfl), trivial, h.nothing⟩
  · obtain ⟨y, hy, hyb, hys, hya⟩ := find_at hf
    obtain ⟨f, hfi, hfy⟩ := hR.get hy
    have hlt := (List.getElem?_eq_some_iff.1 hfi).1
    have hst : (M.at' i).st = f.st := by rw [hya, ← hfy]; rfl
    have hbk := find_bk hO hf
    refine Pre.setV (t := 5) (c := .int .i64 (i : Int)) rfl (by rw [hf]; rfl) ?_
    refine c_region _ rfl ?_
    refine l_q rfl (q_move rfl rfl) rfl rfl ?_
    refine l_e rfl ?_
    refine e_call_00 (rblock_spec b) rfl rfl rfl Try.call85 rfl (fun _ _ => trivial) ?_
    intro _ _
    refine l_q rfl (q_not rfl rfl) rfl rfl ?_
    refine l_q rfl (q_move rfl rfl) rfl rfl ?_
    refine Pre.setB (t := 12) (c := false) rfl (by rw [hbk]; rfl) ?_
    refine l_q rfl (q_move rfl rfl) rfl rfl ?_
    refine l_q rfl (q_lss rfl rfl rfl) rfl rfl ?_
    refine l_q rfl (q_pick_f rfl rfl rfl) rfl rfl ?_
    refine l_q rfl (q_move rfl rfl) rfl rfl ?_
    refine Pre.setB (t := 16) (c := false) rfl (decide_eq_false (by omega)) ?_
    refine l_q rfl (q_move rfl rfl) rfl rfl ?_
    refine l_q rfl (q_nilCheck rfl rfl) rfl rfl ?_
    refine l_q rfl (q_fieldAddr rfl Try.underlying100 rfl Try.sizeOf97 rfl rfl) rfl rfl ?_
    refine l_q rfl (q_loadC rfl Try.isAgg97 rfl (fun _ h => (RC.keep hC h).c) rfl) rfl rfl ?_
    refine l_q rfl (q_move rfl rfl) rfl rfl ?_
    refine l_q rfl (q_indexV i rfl Try.underlying97 Try.sizeOf102 rfl (fun _ h => hC.f.keep h (by simp [dom])) rfl rfl (by omega)) rfl rfl ?_
    refine l_q rfl (q_fieldAddr rfl Try.underlying102 rfl Try.sizeOf3 rfl rfl) rfl rfl ?_
    refine l_q rfl (q_loadV i 0 rfl Try.isAgg3 rfl rfl (fun _ h => hC.f.keep h (by simp [dom])) hfi rfl) rfl rfl ?_
    refine l_q rfl (q_neq rfl rfl rfl) rfl rfl ?_
    refine l_q rfl (q_pick_f rfl rfl rfl) rfl rfl ?_
    refine l_nil ?_
    refine k_then ?_
    refine Pre.caseB 26 rfl (fun hs => ?_) (fun hs => ?_)
    · try simp only [decide_eq_true_eq, decide_eq_false_iff_not, Bool.not_eq_true', Bool.not_eq_false'] at hs
      refine c_true rfl ?_
      refine c_seq ?_
      refine c_region _ rfl ?_
      refine l_q rfl (q_assign rfl rfl) rfl rfl ?_
      refine l_nil ?_
      refine k_then ?_
      refine c_ret ?_
      refine k_then_ret ?_
      refine r_one rfl rfl ?_
      exact fun _ h => ⟨(), congrArg (fun z => Ending.returned (Value.int .i64 z)) (by unfold Mo.frI; rw [hf]; simp only; rw [if_neg (by rw [hst]; exact hs)]; rfl), trivial, h.nothing⟩
    · try simp only [decide_eq_true_eq, decide_eq_false_iff_not, Bool.not_eq_true', Bool.not_eq_false'] at hs
      refine c_false rfl ?_
      refine c_skip ?_
      refine k_then ?_
      refine c_seq ?_
      refine c_region _ rfl ?_
      refine l_q rfl (q_move rfl rfl) rfl rfl ?_
      refine l_q rfl (q_assign rfl rfl) rfl rfl ?_
      refine l_nil ?_
      refine k_then ?_
      refine c_ret ?_
      refine r_one rfl rfl ?_
      exact fun _ h => ⟨(), congrArg (fun z => Ending.returned (Value.int .i64 z)) (by unfold Mo.frI; rw [hf]; simp only; rw [if_pos (by rw [hst]; exact hs)]; rfl), trivial, h.nothing⟩
set_option maxRecDepth 100000 in
set_option maxHeartbeats 1000000 in
theorem rline_spec {br : Nat} {R : RS} {M : Mo} {B : Nat} (hR : RelR R M) (hO : M.Ok B) : Con Try.prog 62 [.pointer (some ⟨br, 0, none⟩)] (fun w => RC w br R M) [] (fun v : Value => v) (fun _ => True) (fun v => [rowE v 3 (encI .i64) (M.line.map Prod.fst)]) := by
  intro w hE hH
  have hC := hE
  refine enter (n := 26) (vs := [.pointer (some ⟨br, 0, none⟩)]) (St w [] []) Try.func62 rfl rfl rfl (St.init hH) ?_
  refine c_seq ?_
  have hfl := hR.len
  have h64 := hO.n64
  have hB9 := hO.B9
  have hlB := hO.lB
  have hlL := hO.ll
  refine c_region _ rfl ?_
  refine l_q rfl (q_assign rfl rfl) rfl rfl ?_
  refine l_nil ?_
  refine k_then ?_
  refine c_seq ?_
  refine c_region _ rfl ?_
  refine l_q rfl (q_assign rfl rfl) rfl rfl ?_
  refine l_nil ?_
  refine k_then ?_
  refine c_seq ?_
  refine c_seq ?_
  refine c_region _ rfl ?_
  refine l_q rfl (q_assign rfl rfl) rfl rfl ?_
  refine l_nil ?_
  refine k_then ?_
  refine c_block ?_
  refine row0 3 (encI .i64) none ?_
  refine c_loop2 (fun (i : Nat) (v : Value) => [(0, .pointer (some ⟨br, 0, none⟩)), (3, v), (4, .int .i64 (i : Int))]) (fun (i : Nat) (v : Value) => St w [] [rowE v 3 (encI .i64) ((M.line.take i).map Prod.fst)]) (fun (i : Nat) (v : Value) => i ≤ M.line.length) (fun (i : Nat) (v : Value) => M.line.length - i) (0) (.slice none 0 0) (Nat.zero_le _) (Sub.cons rfl (Sub.cons rfl (Sub.cons rfl (Sub.nil)))) (fun _ h => h) ?_
  intro i v hi
  refine c_seq ?_
  refine c_seq ?_
  have htl := List.length_take_le i M.line
  have htm : ((M.line.take i).map Prod.fst).length ≤ i := by rw [List.length_map]; exact htl
  refine c_region _ rfl ?_
  refine l_q rfl (q_move rfl rfl) rfl rfl ?_
  refine l_q rfl (q_move rfl rfl) rfl rfl ?_
  refine l_q rfl (q_nilCheck rfl rfl) rfl rfl ?_
  refine l_q rfl (q_fieldAddr rfl Try.underlying100 rfl Try.sizeOf98 rfl rfl) rfl rfl ?_
  refine l_q rfl (q_loadC rfl Try.isAgg98 rfl (fun _ h => (RC.keep hC h).c) rfl) rfl rfl ?_
  refine l_q rfl (q_lenV rfl Try.underlying98 rfl (fun _ h => hC.l.keep h (by simp [dom]))) rfl rfl ?_
  refine l_q rfl (q_lss rfl rfl rfl) rfl rfl ?_
  refine l_nil ?_
  refine k_then ?_
  refine Pre.caseB 11 rfl (fun h1 => ?_) (fun h1 => ?_)
  · try simp only [decide_eq_true_eq, decide_eq_false_iff_not, Bool.not_eq_true', Bool.not_eq_false'] at h1
    obtain ⟨q, hli⟩ : ∃ q, M.line[i]? = some q := ⟨_, List.getElem?_eq_getElem (by omega)⟩
    refine c_true rfl ?_
    refine c_skip ?_
    refine k_then ?_
    refine c_seq ?_
    refine c_block ?_
    refine c_region _ rfl ?_
    refine l_q rfl (q_move rfl rfl) rfl rfl ?_
    refine l_q rfl (q_move rfl rfl) rfl rfl ?_
    refine l_q rfl (q_nilCheck rfl rfl) rfl rfl ?_
    refine l_q rfl (q_fieldAddr rfl Try.underlying100 rfl Try.sizeOf98 rfl rfl) rfl rfl ?_
    refine l_q rfl (q_loadC rfl Try.isAgg98 rfl (fun _ h => (RC.keep hC h).c) rfl) rfl rfl ?_
    refine l_q rfl (q_move rfl rfl) rfl rfl ?_
    refine l_q rfl (q_indexV i rfl Try.underlying98 Try.sizeOf138 rfl (fun _ h => hC.l.keep h (by simp [dom])) rfl rfl (by omega)) rfl rfl ?_
    refine l_q rfl (q_fieldAddr rfl Try.underlying138 rfl Try.sizeOf3 rfl rfl) rfl rfl ?_
    refine l_q rfl (q_loadV i 0 rfl Try.isAgg3 rfl rfl (fun _ h => hC.l.keep h (by simp [dom])) hli rfl) rfl rfl ?_
    refine l_e rfl ?_
    refine e_buildSliceV (sz := 1) [.tmp 22] rfl rfl rfl rfl rfl Try.underlying28 Try.sizeOf3 rfl Try.zeroValue3 rfl ?_
    intro b1
    refine pull1 ?_
    refine l_e rfl ?_
    refine e_append rfl rfl rfl Try.underlying28 Try.underlying28 info3 rfl rfl rfl rfl rfl (fun _ h => lit_rd (h.at 1 rfl) (encI .i64) [q.1] rfl rfl) (by simp only [byt3, List.length_append, List.length_cons, List.length_nil]; omega) (by simp only [List.length_append, List.length_cons, List.length_nil]; omega) ?_
    intro v2
    refine row_eq (show _ = (M.line.take (i + 1)).map Prod.fst from by rw [List.take_add_one, hli, List.map_append]; rfl) ?_
    refine pull1 ?_
    refine drop0 ?_
    refine l_q rfl (q_assign rfl rfl) rfl rfl ?_
    refine l_nil ?_
    refine k_block ?_
    refine k_then ?_
    refine c_region _ rfl ?_
    refine l_q rfl (q_move rfl rfl) rfl rfl ?_
    refine l_q rfl (q_inc rfl rfl rfl (by omega)) rfl rfl ?_
    refine l_q rfl (q_assign rfl rfl) rfl rfl ?_
    refine l_nil ?_
    exact k_round ((i + 1, v2)) (by dsimp only; omega) (by dsimp only; omega) (Sub.cons rfl (Sub.cons rfl (Sub.cons rfl (Sub.nil)))) (fun _ h => h)
  · try simp only [decide_eq_true_eq, decide_eq_false_iff_not, Bool.not_eq_true', Bool.not_eq_false'] at h1
    rw [List.take_of_length_le (show M.line.length ≤ i by omega)]
    refine c_false rfl ?_
    refine c_exit ?_
    refine k_then_exit ?_
    refine k_then_exit ?_
    refine k_block_exit ?_
    refine k_then ?_
    refine c_seq ?_
    refine c_region _ rfl ?_
    refine l_q rfl (q_move rfl rfl) rfl rfl ?_
    refine l_q rfl (q_assign rfl rfl) rfl rfl ?_
    refine l_nil ?_
    refine k_then ?_
    refine c_ret ?_
    refine r_one rfl rfl ?_
    exact fun _ h => ⟨v, rfl, trivial, h⟩
end Go.Proofs.Ytpfbagkjhchojaa
