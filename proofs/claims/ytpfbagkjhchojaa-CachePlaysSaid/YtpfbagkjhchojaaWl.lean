/- one loads, the others wait: plain -/
import Derived.Test.YtpfbagkjhchojaaAw
import Derived.Test.YtpfbagkjhchojaaS9
set_option linter.unusedVariables false
set_option linter.unusedSimpArgs false
namespace Go.Proofs.Ytpfbagkjhchojaa
open Go.Sep Go.RowKit

/-! ## One loads, the others wait -/
def lodV (b : Int) (n : Nat) : Vw := ⟨1, b, 0, (n : Int), true, false, false, []⟩
def lod (b : Int) : List Int → Mo
  | [] => mo0 3
  | _ :: r => ⟨[lodV b (r.length + 1), free0, free0], r.map (fun t => (t, b)), [], 0⟩
def lof (b : Int) (n : Nat) (lf : Bool) (es : List En) : Mo := ⟨[⟨2, b, 0, (n : Int), true, false, lf, es⟩, free0, free0], [], [], 0⟩
theorem free_B (b : Int) : isB b free0 = false := by simp [isB, free0]
theorem mo0_find (n : Nat) (b : Int) : (mo0 n).find b = none := fst1_none (fun z hz => by rw [(List.mem_replicate.1 (show z ∈ List.replicate n free0 from hz)).2]; exact free_B b)
theorem mo0_mayW (n : Nat) {t : Int} (b : Int) (h : tkB t = true) : (mo0 n).mayW t b = true := by unfold Mo.mayW; rw [h]; rfl
theorem lod_first {b t : Int} (hb : bkB b = true) (ht : tkB t = true) : (lod b []).pin t b = (3, lod b [t]) := by
  show (mo0 3).pin t b = _
  rw [pin_read (k := 0) (by rw [hb, mo0_mayW 3 b ht]; rfl) (mo0_find 3 b) rfl]
  rfl
theorem lod_find (b t : Int) (r : List Int) : (lod b (t :: r)).find b = some 0 := fst1_some (y := lodV b (r.length + 1)) rfl (by simp [isB, lodV]) (fun z hz => by simp at hz)
theorem lod_waits (b t t0 : Int) (r : List Int) : (lod b (t0 :: r)).waits t = decide (t ∈ r) := by
  show (r.map (fun t => (t, b))).any (isT t) = _
  rw [List.any_map]
  induction r with
  | nil => simp
  | cons a r ih =>
    rw [List.any_cons, ih]
    show (decide (a = t) || decide (t ∈ r)) = decide (t ∈ a :: r)
    by_cases e : a = t
    · subst e; simp
    · simp [e]; exact fun e' => absurd e'.symm e
theorem lod_next {b t t0 : Int} {r : List Int} (hb : bkB b = true) (ht : tkB t = true) (hn : t ∉ r) : (lod b (t0 :: r)).pin t b = (2, lod b (t0 :: (r ++ [t]))) := by
  have hm : (bkB b && (lod b (t0 :: r)).mayW t b) = true := by
    unfold Mo.mayW; rw [hb, ht, lod_waits, decide_eq_false hn]; rfl
  rw [pin_at (i := 0) (y := lodV b (r.length + 1)) hm (lod_find b t0 r) rfl, if_neg (show ¬ (lodV b (r.length + 1)).st = 2 from (by decide : ¬ (1 : Int) = 2))]
  show (2, (⟨[{ lodV b (r.length + 1) with pins := ((r.length + 1 : Nat) : Int) + 1, ref := true }, free0, free0], r.map (fun t => (t, b)) ++ [(t, b)], [], 0⟩ : Mo)) = (2, (⟨[lodV b ((r ++ [t]).length + 1), free0, free0], (r ++ [t]).map (fun t => (t, b)), [], 0⟩ : Mo))
  rw [List.map_append, List.length_append]
  rfl
theorem lod_wait {b t t0 : Int} {r : List Int} (hn : t ∈ r) : (lod b (t0 :: r)).pin t b = (0, lod b (t0 :: r)) := pin_no (by
  unfold Mo.mayW; rw [lod_waits, decide_eq_true hn]; simp)
theorem lod_may1 {b t : Int} (ht : tkB t = true) : (lod b [t]).may t = true := by unfold Mo.may; rw [ht]; rfl
theorem lod_may2 (b t t0 : Int) (r : List Int) : (lod b (t0 :: (r ++ [t]))).may t = false := by
  unfold Mo.may; rw [lod_waits, decide_eq_true (by simp)]; simp
theorem lod_fill0 (b : Int) (lf : Bool) (es : List En) : (lod b []).fill b lf es = (([], false), lod b []) := fill_none lf es (by
  show (mo0 3).frI b 1 = none
  unfold Mo.frI; rw [mo0_find])
theorem lod_fill (b t0 : Int) (r : List Int) (lf : Bool) (es : List En) : (lod b (t0 :: r)).fill b lf es = ((r, true), lof b (r.length + 1) lf es) := by
  rw [fill_some (i := 0) lf es (by unfold Mo.frI; rw [lod_find]; rfl)]
  have h1 : (lod b (t0 :: r)).told b = r := by
    show (((r.map (fun t => (t, b))).filter (fun q => decide (q.2 = b))).map Prod.fst) = r
    rw [List.filter_eq_self.2 (fun q hq => by obtain ⟨z, _, rfl⟩ := List.mem_map.1 hq; simp), List.map_map]
    exact List.map_id _
  have h2 : (lod b (t0 :: r)).loads.filter (fun q => !decide (q.2 = b)) = [] := List.filter_eq_nil_iff.2 (fun q hq => by obtain ⟨z, _, rfl⟩ := List.mem_map.1 (show q ∈ r.map (fun t => (t, b)) from hq); simp)
  rw [h1, h2]; rfl
theorem lof_free (b : Int) (n : Nat) (lf : Bool) (es : List En) : (lof b n lf es).free = 2 := rfl
theorem fst1_mem {l : List Int} {t : Int} : (fst1 (fun z => decide (z = t)) l).isSome = decide (t ∈ l) := by
  unfold fst1; rw [List.findIdx?_isSome, Bool.eq_iff_iff, List.any_eq_true, decide_eq_true_eq]
  exact ⟨fun ⟨x, h, e⟩ => of_decide_eq_true e ▸ h, fun h => ⟨t, h, decide_eq_true rfl⟩⟩
theorem q_remu {x : Int} (h : (Lit.int .u8 x).wf = true) : 0 ≤ x % 8 ∧ x % 8 < 8 := by omega
theorem tk_in {t : Int} (h : 0 ≤ t ∧ t < 8) : tkB t = true := by unfold tkB; rw [decide_eq_true h.1, decide_eq_true h.2]; rfl
theorem bk_in {t : Int} (h : 0 ≤ t ∧ t < 256) : bkB t = true := by unfold bkB; rw [decide_eq_true h.1, decide_eq_true h.2]; rfl
theorem map_three {l : List FC} {x y z : Vw} (h : l.map vw = [x, y, z]) : ∃ f g k, l = [f, g, k] ∧ vw f = x := by
  match l, h with
  | [f, g, k], h => exact ⟨f, g, k, rfl, by simp at h; exact h.1⟩
theorem u8_in {l : List Int} (h : ∀ x ∈ l, (Lit.int .u8 x).wf = true) {i : Nat} {x : Int} (hx : l[i]? = some x) : 0 ≤ x ∧ x ≤ 255 := wf_u8 (h x (List.mem_of_getElem? hx))

set_option maxRecDepth 100000 in
set_option maxHeartbeats 1000000 in
theorem place8_spec {va : Value} (l : List Int) (t : Int) (hn : l.length ≤ 65536) : Con Try.prog 11 [va, .int .i64 t] (fun w => RdV w va (encI .i64) l) [] (fun _ : Unit => .int .i64 (io (fst1 (fun z => decide (z = t)) l))) (fun _ => True) (fun _ => []) := by
  intro w hl hH
  refine enter (n := 19) (vs := [va, .int .i64 t]) (St w [] []) Try.func11 rfl rfl rfl (St.init hH) ?_
  refine c_seq ?_
  refine c_region _ rfl ?_
  refine l_q rfl (q_assign rfl rfl) rfl rfl ?_
  refine l_nil ?_
  refine k_then ?_
  refine c_seq ?_
  refine c_seq ?_
  refine c_region _ rfl ?_
  refine l_q rfl (q_assign rfl rfl) rfl rfl ?_
  refine l_nil ?_
  refine k_then ?_
  refine c_block ?_
  refine c_loop1 (fun (i : Nat) => [(0, va), (1, .int .i64 t), (5, .int .i64 (i : Int))]) (fun (i : Nat) => St w [] []) (fun (i : Nat) => i ≤ l.length ∧ ∀ z ∈ l.take i, decide (z = t) = false) (fun (i : Nat) => l.length - i) (0) ⟨Nat.zero_le _, by simp⟩ (Sub.cons rfl (Sub.cons rfl (Sub.cons rfl (Sub.nil)))) (fun _ h => h) ?_
  intro i hp
  refine c_seq ?_
  refine c_seq ?_
  obtain ⟨hi, hno⟩ := hp
  refine c_region _ rfl ?_
  refine l_q rfl (q_move rfl rfl) rfl rfl ?_
  refine l_q rfl (q_move rfl rfl) rfl rfl ?_
  refine l_q rfl (q_lenV rfl Try.underlying28 rfl (fun _ h => hl.keep h (by simp [dom]))) rfl rfl ?_
  refine l_q rfl (q_lss rfl rfl rfl) rfl rfl ?_
  refine l_nil ?_
  refine k_then ?_
  refine Pre.caseB 9 rfl (fun h1 => ?_) (fun h1 => ?_)
  · try simp only [decide_eq_true_eq, decide_eq_false_iff_not, Bool.not_eq_true', Bool.not_eq_false'] at h1
    obtain ⟨x, hx⟩ : ∃ x, l[i]? = some x := ⟨_, List.getElem?_eq_getElem (by omega)⟩
    refine c_true rfl ?_
    refine c_skip ?_
    refine k_then ?_
    refine c_seq ?_
    refine c_block ?_
    refine c_seq ?_
    refine c_region _ rfl ?_
    refine l_q rfl (q_move rfl rfl) rfl rfl ?_
    refine l_q rfl (q_move rfl rfl) rfl rfl ?_
    refine l_q rfl (q_indexV i rfl Try.underlying28 Try.sizeOf3 rfl (fun _ h => hl.keep h (by simp [dom])) rfl rfl (by omega)) rfl rfl ?_
    refine l_q rfl (q_loadV i 0 rfl Try.isAgg3 rfl rfl (fun _ h => hl.keep h (by simp [dom])) hx rfl) rfl rfl ?_
    refine l_q rfl (q_move rfl rfl) rfl rfl ?_
    refine l_q rfl (q_eql rfl rfl rfl) rfl rfl ?_
    refine l_nil ?_
    refine k_then ?_
    refine Pre.caseB 17 rfl (fun h2 => ?_) (fun h2 => ?_)
    · try simp only [decide_eq_true_eq, decide_eq_false_iff_not, Bool.not_eq_true', Bool.not_eq_false'] at h2
      refine c_true rfl ?_
      refine c_seq ?_
      refine c_region _ rfl ?_
      refine l_q rfl (q_move rfl rfl) rfl rfl ?_
      refine l_q rfl (q_assign rfl rfl) rfl rfl ?_
      refine l_nil ?_
      refine k_then ?_
      refine c_ret ?_
      refine k_block_ret ?_
      refine k_then_ret ?_
      refine k_then_ret ?_
      refine k_block_ret ?_
      refine k_then_ret ?_
      refine r_one rfl rfl ?_
      exact fun _ h => ⟨(), congrArg (fun z => Ending.returned (Value.int .i64 z)) (by rw [fst1_some hx (decide_eq_true h2) hno]; rfl), trivial, h⟩
    · try simp only [decide_eq_true_eq, decide_eq_false_iff_not, Bool.not_eq_true', Bool.not_eq_false'] at h2
      refine c_false rfl ?_
      refine c_skip ?_
      refine k_block ?_
      refine k_then ?_
      refine c_region _ rfl ?_
      refine l_q rfl (q_move rfl rfl) rfl rfl ?_
      refine l_q rfl (q_inc rfl rfl rfl (by omega)) rfl rfl ?_
      refine l_q rfl (q_assign rfl rfl) rfl rfl ?_
      refine l_nil ?_
      exact k_round (i + 1) (by omega) ⟨by omega, take_none hno hx (decide_eq_false h2)⟩ (Sub.cons rfl (Sub.cons rfl (Sub.cons rfl (Sub.nil)))) (fun _ h => h)
  · try simp only [decide_eq_true_eq, decide_eq_false_iff_not, Bool.not_eq_true', Bool.not_eq_false'] at h1
    refine c_false rfl ?_
    refine c_exit ?_
    refine k_then_exit ?_
    refine k_then_exit ?_
    refine k_block_exit ?_
    refine k_then ?_
    refine c_seq ?_
    refine c_region _ rfl ?_
    refine l_q rfl (q_assign rfl rfl) rfl rfl ?_
    refine l_nil ?_
    refine k_then ?_
    refine c_ret ?_
    refine r_one rfl rfl ?_
    exact fun _ h => ⟨(), congrArg (fun z => Ending.returned (Value.int .i64 z)) (by rw [List.take_of_length_le (by omega)] at hno; rw [fst1_none hno]; rfl), trivial, h⟩
end Go.Proofs.Ytpfbagkjhchojaa
