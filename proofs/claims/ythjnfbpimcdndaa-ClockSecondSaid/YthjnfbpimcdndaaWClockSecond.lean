/- ClockSecond, walked -/
import Derived.Test.YthjnfbpimcdndaaWClockGoes
set_option linter.unusedVariables false
set_option linter.unusedSimpArgs false
namespace Go.Proofs.Ythjnfbpimcdndaa
open Go.Sep Go.RowKit

theorem mod2 {x n : Nat} (h : x < 2 * n) : x % n = if x < n then x else x - n := by
  split
  · rename_i g; exact Nat.mod_eq_of_lt g
  · rw [Nat.mod_eq_sub_mod (by omega)]; exact Nat.mod_eq_of_lt (by omega)
theorem rank {n h j r : Nat} (hh : h < n) (hj : j < n) (hr : r < n) : (h + r) % n = j ↔ r = (j + n - h) % n := by
  rw [mod2 (by omega : h + r < 2 * n), mod2 (by omega : j + n - h < 2 * n)]
  split <;> split <;> omega
theorem ring_get {n h r : Nat} (hr : r < n) : (ring n h)[r]? = some ((h + r) % n) := by simp [ring, hr]
theorem ring_len {n h : Nat} : (ring n h).length = n := by simp [ring]
/-- Who stands ahead, in a ring from h on. -/
theorem ahead {n h j b : Nat} {pre post : List Nat} (hh : h < n) (hj : j < n) (hb : b < n) (e : ring n h = pre ++ b :: post) : j ∈ pre ↔ (j + n - h) % n < (b + n - h) % n := by
  have hl : pre.length < n := by
    have := ring_len (n := n) (h := h)
    rw [e] at this; simp at this; omega
  have hpl : pre.length = (b + n - h) % n := by
    refine (rank hh hb hl).1 ?_
    have := ring_get (h := h) hl
    rw [e] at this; simpa using this.symm
  have hg : ∀ r, r < pre.length → pre[r]? = some ((h + r) % n) := fun r hr => by
    have := ring_get (h := h) (show r < n by omega)
    rw [e, List.getElem?_append_left hr] at this; exact this
  rw [← hpl]
  constructor
  · intro hm
    obtain ⟨r, hr, he⟩ := List.mem_iff_getElem.1 hm
    have := hg r hr
    rw [List.getElem?_eq_getElem hr, he] at this
    rw [← (rank hh hj (by omega)).1 (Option.some.inj this).symm]; exact hr
  · intro hr
    have := hg _ hr
    rw [(rank hh hj (Nat.mod_lt _ (by omega))).2 rfl] at this
    exact List.mem_of_getElem? this
theorem rep_get {n j : Nat} (h : j < n) : (List.replicate n true).getD j false = true := by simp [List.getD_eq_getElem?_getD, List.getElem?_replicate, h]
theorem set_get {l : List Bool} {k j : Nat} {x : Bool} (h : k < l.length) : (l.set k x).getD j false = if k = j then x else l.getD j false := by
  simp only [List.getD_eq_getElem?_getD, List.getElem?_set]
  by_cases hk : k = j
  · subst hk; simp [h]
  · simp [hk]
/-- All can go and all have their ref: the hand's place goes, and no ref is left. -/
theorem first_goes {n h : Nat} (hh : h < n) : ∃ l, swM (List.replicate n true) (List.replicate n true) (h : Int) = (some h, l) ∧ l.length = n ∧ ∀ j, j < n → l.getD j false = false := by
  have hn : 0 < (List.replicate n true).length := by simp; omega
  have s := sw_sw (cs := List.replicate n true) (rs := List.replicate n true) (hand := (h : Int)) hn rfl
  have hlen := sw_len s
  rw [List.length_replicate, show ((h : Int) % (n : Int)).toNat = h from by rw [← Int.natCast_emod, Nat.mod_eq_of_lt hh]; rfl] at s
  have hm : ∀ j, j < n → j ∈ ring n h := fun j hj => (ring_mem (by omega)).2 hj
  generalize swM (List.replicate n true) (List.replicate n true) (h : Int) = r at *
  cases s with
  | bare e h1 hc hl =>
    rename_i pre p post
    have hp : p < n := (ring_mem (by omega)).1 (by rw [e]; simp)
    rw [rep_get hp] at hl; cases hl
  | all e h0 h1 hc =>
    rename_i pre p post
    have hpre : pre = [] := by
      cases pre with
      | nil => rfl
      | cons x xs =>
        have hx : x < n := (ring_mem (by omega)).1 (by rw [e]; simp)
        have := h1 x (List.mem_cons_self ..)
        rw [rep_get hx] at this; cases this
    subst hpre
    have hp : p = h := by
      have := ring_get (h := h) (show 0 < n by omega)
      rw [e] at this
      simp only [List.nil_append, List.getElem?_cons_zero, Option.some.injEq, Nat.add_zero, Nat.mod_eq_of_lt hh] at this
      exact this
    subst hp
    refine ⟨_, rfl, by simpa using hlen, fun j hj => ?_⟩
    rw [clr_get, if_pos ⟨hm j hj, rep_get hj⟩]
  | no h0 =>
    have := h0 h (hm h hh)
    rw [rep_get hh] at this; cases this
/-- One ref gone: that place goes, and the refs ahead of it are taken. -/
theorem second_goes {n h b : Nat} (hh : h < n) (hb : b < n) : ∃ l, swM (List.replicate n true) ((List.replicate n true).set b false) (h : Int) = (some b, l) ∧ l.length = n ∧ ∀ j, j < n → j ≠ b → l.getD j false = !decide ((j + n - h) % n < (b + n - h) % n) := by
  have hn : 0 < (List.replicate n true).length := by simp; omega
  have s := sw_sw (cs := List.replicate n true) (rs := (List.replicate n true).set b false) (hand := (h : Int)) hn (by simp)
  have hlen := sw_len s
  have hg : ∀ j, j < n → ((List.replicate n true).set b false).getD j false = !decide (b = j) := fun j hj => by
    rw [set_get (by simpa using hb), rep_get hj]
    by_cases e : b = j <;> simp [e]
  rw [List.length_replicate, show ((h : Int) % (n : Int)).toNat = h from by rw [← Int.natCast_emod, Nat.mod_eq_of_lt hh]; rfl] at s
  have hm : ∀ j, j < n → j ∈ ring n h := fun j hj => (ring_mem (by omega)).2 hj
  generalize swM (List.replicate n true) ((List.replicate n true).set b false) (h : Int) = r at *
  cases s with
  | bare e h1 hc hl =>
    rename_i pre p post
    have hp : p < n := (ring_mem (by omega)).1 (by rw [e]; simp)
    rw [hg p hp] at hl
    simp only [Bool.not_eq_false', decide_eq_true_eq] at hl
    subst hl
    refine ⟨_, rfl, by simpa using hlen, fun j hj hne => ?_⟩
    rw [clr_get, hg j hj]
    have ha := ahead hh hj hb e
    by_cases hz : j ∈ pre
    · rw [if_pos ⟨hz, rep_get hj⟩, decide_eq_true (ha.1 hz)]; rfl
    · rw [if_neg (fun x => hz x.1), decide_eq_false (fun x => hz (ha.2 x)), decide_eq_false (fun x => hne x.symm)]
  | all e h0 h1 hc =>
    have := h0 b (hm b hb) (rep_get hb)
    rw [hg b hb] at this; simp at this
  | no h0 =>
    have := h0 h (hm h hh)
    rw [rep_get hh] at this; cases this
theorem rkI {n h j : Nat} (hh : h < n) : ((j : Int) - (h : Int) + (n : Int)) % (n : Int) = (((j + n - h) % n : Nat) : Int) := by
  rw [Int.natCast_emod, show ((j + n - h : Nat) : Int) = (j : Int) - h + n from by omega]
theorem fill_set {k i : Nat} (h : i < k) : (List.replicate i true ++ List.replicate (k - i) false).set i true = List.replicate (i + 1) true ++ List.replicate (k - (i + 1)) false := by
  rw [List.set_append_right _ _ (by simp)]
  simp only [List.length_replicate, Nat.sub_self]
  obtain ⟨m, hm⟩ : ∃ m, k - i = m + 1 := ⟨k - i - 1, by omega⟩
  rw [hm, List.replicate_succ, List.set_cons_zero, show k - (i + 1) = m from by omega, List.replicate_succ']
  simp only [List.append_assoc, List.cons_append, List.nil_append]
theorem fill_len {k i : Nat} (h : i ≤ k) : (List.replicate i true ++ List.replicate (k - i) false).length = k := by simp; omega
set_option maxRecDepth 100000 in
set_option maxHeartbeats 1000000 in
theorem second_spec (n0 b0 d0 : Int) (h0 : (Lit.int .u8 n0).wf = true) (h1 : (Lit.int .u8 b0).wf = true) (h2 : (Lit.int .u8 d0).wf = true) : Con Try.prog 7 [.int .u8 n0, .int .u8 b0, .int .u8 d0] (fun _ => True) [] (fun _ : Unit => .bool true) (fun _ => True) (fun _ => []) := by
  intro w hE hH
  obtain ⟨w0a, w0b⟩ := wf_u8 h0
  obtain ⟨w1a, w1b⟩ := wf_u8 h1
  obtain ⟨w2a, w2b⟩ := wf_u8 h2
  refine enter (n := 143) (vs := [.int .u8 n0, .int .u8 b0, .int .u8 d0]) (St w [] []) Try.func7 rfl rfl rfl (St.init hH) ?_
  refine c_seq ?_
  obtain ⟨k, hk, hk1, hk2⟩ : ∃ k : Nat, 1 + n0 % 64 = (k : Int) ∧ 1 ≤ k ∧ k ≤ 64 := ⟨(1 + n0 % 64).toNat, by omega, by omega, by omega⟩
  refine c_region _ rfl ?_
  refine l_q rfl (q_assign rfl rfl) rfl rfl ?_
  refine l_nil ?_
  refine k_then ?_
  refine c_seq ?_
  refine c_region _ rfl ?_
  refine l_q rfl (q_move rfl rfl) rfl rfl ?_
  refine l_q rfl (q_rem_nn rfl rfl rfl (by omega) (by omega)) rfl rfl ?_
  refine l_q rfl (q_conv_in rfl Try.underlying5 Try.underlying3 rfl (by first | rfl | (simp only [IntKind.wrap]; omega) | exact wrap64_in (by omega))) rfl rfl ?_
  refine l_q rfl (q_add64 rfl rfl rfl (by omega)) rfl rfl ?_
  refine l_q rfl (q_assign rfl rfl) rfl rfl ?_
  refine l_nil ?_
  refine k_then ?_
  refine c_seq ?_
  refine Pre.setV (t := 7) (c := .int .i64 (k : Int)) rfl (by rw [hk]) ?_
  refine c_meet2 (fun (x1 : Value) (x2 : Value) => [(1, .int .u8 b0), (2, .int .u8 d0), (7, .int .i64 (k : Int)), (8, x1), (9, x2)]) (fun (x1 : Value) (x2 : Value) => St w [] [rowE x1 4 encB (List.replicate k false), rowE x2 4 encB (List.replicate k false)]) (fun (x1 : Value) (x2 : Value) => True) ?_ ?_
  · refine c_any (fun _ => True) rfl St.drawn ?_
    refine a_q (blind_then blind_body) 0 rfl (by kernel_rfl) (by kernel_rfl) (by kernel_rfl) (fun _ _ => trivial) rfl (q_move rfl rfl) rfl rfl ?_
    refine a_q (blind_then blind_body) 2 rfl (by kernel_rfl) (by kernel_rfl) (by kernel_rfl) (fun _ _ => trivial) rfl (q_move rfl rfl) rfl rfl ?_
    refine a_all2 1 3 (by kernel_rfl) rfl rfl rfl rfl ?_ ?_ 
    · refine e_makeSlice encB false k rfl rfl rfl Try.underlying22 info4 rfl rfl rfl rfl rfl rfl rfl (by simp only [byt4]; omega) (by omega) ?_
      intro y1
      refine d_held (fun _ _ => trivial) ?_
      refine a_q (blind_then blind_body) 4 rfl (by kernel_rfl) (by kernel_rfl) (by kernel_rfl) (fun _ _ => trivial) rfl (q_assign rfl rfl) rfl rfl ?_
      refine a_all1 3 (by kernel_rfl) rfl rfl ?_
      refine e_makeSlice encB false k rfl rfl rfl Try.underlying22 info4 rfl rfl rfl rfl rfl rfl rfl (by simp only [byt4]; omega) (by omega) ?_
      intro y2
      refine d_held (fun _ _ => trivial) ?_
      refine a_q (blind_then blind_body) 5 rfl (by kernel_rfl) (by kernel_rfl) (by kernel_rfl) (fun _ _ => trivial) rfl (q_assign rfl rfl) rfl rfl ?_
      refine a_nil (by kernel_rfl) ?_
      refine pull1 ?_
      exact k_meet ((y1, y2)) trivial (Sub.cons rfl (Sub.cons rfl (Sub.cons rfl (Sub.cons rfl (Sub.cons rfl (Sub.nil)))))) (fun _ h => h)
    · refine e_makeSlice encB false k rfl rfl rfl Try.underlying22 info4 rfl rfl rfl rfl rfl rfl rfl (by simp only [byt4]; omega) (by omega) ?_
      intro y1
      refine d_held (fun _ _ => trivial) ?_
      refine a_all1 1 (by kernel_rfl) rfl rfl ?_
      refine e_makeSlice encB false k rfl rfl rfl Try.underlying22 info4 rfl rfl rfl rfl rfl rfl rfl (by simp only [byt4]; omega) (by omega) ?_
      intro y2
      refine d_held (fun _ _ => trivial) ?_
      refine a_q (blind_then blind_body) 4 rfl (by kernel_rfl) (by kernel_rfl) (by kernel_rfl) (fun _ _ => trivial) rfl (q_assign rfl rfl) rfl rfl ?_
      refine a_q (blind_then blind_body) 5 rfl (by kernel_rfl) (by kernel_rfl) (by kernel_rfl) (fun _ _ => trivial) rfl (q_assign rfl rfl) rfl rfl ?_
      refine a_nil (by kernel_rfl) ?_
      refine pull1 ?_
      refine pull1 ?_
      exact k_meet ((y2, y1)) trivial (Sub.cons rfl (Sub.cons rfl (Sub.cons rfl (Sub.cons rfl (Sub.cons rfl (Sub.nil)))))) (fun _ h => h)
  · intro x1 x2 _
    refine c_seq ?_
    refine c_seq ?_
    refine c_region _ rfl ?_
    refine l_q rfl (q_assign rfl rfl) rfl rfl ?_
    refine l_nil ?_
    refine k_then ?_
    refine c_block ?_
    refine pull1 ?_
    refine pull1 ?_
    refine c_loop1 (fun (i : Nat) => [(1, .int .u8 b0), (2, .int .u8 d0), (7, .int .i64 (k : Int)), (8, x1), (9, x2), (10, .int .i64 (i : Int))]) (fun (i : Nat) => St w [] [rowE x1 4 encB (List.replicate i true ++ List.replicate (k - i) false), rowE x2 4 encB (List.replicate i true ++ List.replicate (k - i) false)]) (fun (i : Nat) => i ≤ k) (fun (i : Nat) => k - i) (0) (Nat.zero_le _) (Sub.cons rfl (Sub.cons rfl (Sub.cons rfl (Sub.cons rfl (Sub.cons rfl (Sub.cons rfl (Sub.nil))))))) (fun _ h => h) ?_
    intro i hi
    refine c_seq ?_
    refine c_seq ?_
    have hfl := fill_len hi
    refine c_region _ rfl ?_
    refine l_q rfl (q_move rfl rfl) rfl rfl ?_
    refine l_q rfl (q_move rfl rfl) rfl rfl ?_
    refine l_q rfl (q_lss rfl rfl rfl) rfl rfl ?_
    refine l_nil ?_
    refine k_then ?_
    refine Pre.caseB 32 rfl (fun hil => ?_) (fun hil => ?_)
    · simp only [decide_eq_true_eq, decide_eq_false_iff_not, Bool.not_eq_true', Bool.not_eq_false'] at hil
      refine c_true rfl ?_
      refine c_skip ?_
      refine k_then ?_
      refine c_seq ?_
      refine c_block ?_
      refine c_region _ rfl ?_
      refine l_q rfl (q_move rfl rfl) rfl rfl ?_
      refine l_q rfl (q_move rfl rfl) rfl rfl ?_
      refine l_q rfl (q_move rfl rfl) rfl rfl ?_
      refine l_q rfl (q_move rfl rfl) rfl rfl ?_
      refine l_q rfl (q_indexV i rfl Try.underlying22 Try.sizeOf4 rfl (fun _ h => h.rd 0 rfl) rfl rfl (by omega)) rfl rfl ?_
      refine l_e rfl ?_
      refine e_storeV i 0 (true) rfl rfl Try.sizeOf4 rfl rfl rfl (gb (by omega)) (by decide) rfl ?_
      refine l_q rfl (q_indexV i rfl Try.underlying22 Try.sizeOf4 rfl (fun _ h => h.rd 1 rfl) rfl rfl (by omega)) rfl rfl ?_
      refine row_eq (fill_set (by omega)) ?_
      refine pull1 ?_
      refine l_e rfl ?_
      refine e_storeV i 0 (true) rfl rfl Try.sizeOf4 rfl rfl rfl (gb (by omega)) (by decide) rfl ?_
      refine l_nil ?_
      refine k_block ?_
      refine k_then ?_
      refine c_region _ rfl ?_
      refine l_q rfl (q_move rfl rfl) rfl rfl ?_
      refine l_q rfl (q_inc rfl rfl rfl (by omega)) rfl rfl ?_
      refine l_q rfl (q_assign rfl rfl) rfl rfl ?_
      refine l_nil ?_
      refine row_eq (fill_set (by omega)) ?_
      refine pull1 ?_
      exact k_round (i + 1) (by omega) (by omega) (Sub.cons rfl (Sub.cons rfl (Sub.cons rfl (Sub.cons rfl (Sub.cons rfl (Sub.cons rfl (Sub.nil))))))) (fun _ h => h)
    · simp only [decide_eq_true_eq, decide_eq_false_iff_not, Bool.not_eq_true', Bool.not_eq_false'] at hil
      have hie : i = k := by omega
      subst hie
      rw [Nat.sub_self, List.replicate_zero, List.append_nil]
      obtain ⟨h, hh, hhn⟩ : ∃ h : Nat, d0 % (i : Int) = (h : Int) ∧ h < i := ⟨(d0 % (i : Int)).toNat, by have := Int.emod_nonneg d0 (show (i : Int) ≠ 0 by omega); omega, by have := Int.emod_lt_of_pos d0 (show (0 : Int) < (i : Int) by omega); have := Int.emod_nonneg d0 (show (i : Int) ≠ 0 by omega); omega⟩
      obtain ⟨b, hb, hbn⟩ : ∃ b : Nat, b0 % (i : Int) = (b : Int) ∧ b < i := ⟨(b0 % (i : Int)).toNat, by have := Int.emod_nonneg b0 (show (i : Int) ≠ 0 by omega); omega, by have := Int.emod_lt_of_pos b0 (show (0 : Int) < (i : Int) by omega); have := Int.emod_nonneg b0 (show (i : Int) ≠ 0 by omega); omega⟩
      refine c_false rfl ?_
      refine c_exit ?_
      refine k_then_exit ?_
      refine k_then_exit ?_
      refine k_block_exit ?_
      refine k_then ?_
      refine c_seq ?_
      refine c_region _ rfl ?_
      refine l_q rfl (q_move rfl rfl) rfl rfl ?_
      refine l_q rfl (q_conv_in rfl Try.underlying5 Try.underlying3 rfl (by first | rfl | (simp only [IntKind.wrap]; omega) | exact wrap64_in (by omega))) rfl rfl ?_
      refine l_q rfl (q_move rfl rfl) rfl rfl ?_
      refine l_q rfl (q_rem_nn rfl rfl rfl (by omega) (by omega)) rfl rfl ?_
      refine l_q rfl (q_assign rfl rfl) rfl rfl ?_
      refine l_nil ?_
      refine k_then ?_
      refine c_seq ?_
      refine Pre.setV (t := 11) (c := .int .i64 (h : Int)) rfl (by rw [hh]) ?_
      obtain ⟨l1, e1, e2, e3⟩ := first_goes hhn
      obtain ⟨p1, p2⟩ := sw_some (congrArg Prod.fst e1)
      rw [List.length_replicate] at p2
      obtain ⟨l2, f1, f2, f3⟩ := second_goes hhn hbn
      obtain ⟨r1, r2⟩ := sw_some (congrArg Prod.fst f1)
      rw [List.length_replicate] at r2
      refine c_region _ rfl ?_
      refine l_q rfl (q_move rfl rfl) rfl rfl ?_
      refine l_q rfl (q_move rfl rfl) rfl rfl ?_
      refine l_q rfl (q_move rfl rfl) rfl rfl ?_
      refine l_e rfl ?_
      refine e_call_01 (sweep_spec (List.replicate i true) (List.replicate i true) (h : Int) (by simp only [Lit.wf, Bool.and_eq_true, decide_eq_true_eq]; exact ⟨by show (-2 ^ 63 : Int) ≤ _; omega, by show _ ≤ (2 ^ 63 - 1 : Int); omega⟩) (by simp; omega)) rfl rfl rfl Try.call9 rfl (fun _ h => ⟨h.rd 0 rfl, h.rd 1 rfl⟩) ?_
      intro v2 _
      rw [e1, p1, p2]
      refine l_q rfl (q_move rfl rfl) rfl rfl ?_
      refine l_q rfl (q_extract rfl rfl rfl) rfl rfl ?_
      refine l_q rfl (q_extract rfl rfl rfl) rfl rfl ?_
      refine l_q rfl (q_extract rfl rfl rfl) rfl rfl ?_
      refine l_q rfl (q_assign rfl rfl) rfl rfl ?_
      refine l_q rfl (q_assign rfl rfl) rfl rfl ?_
      refine l_q rfl (q_assign rfl rfl) rfl rfl ?_
      refine l_nil ?_
      refine k_then ?_
      refine c_seq ?_
      refine c_seq ?_
      refine c_region _ rfl ?_
      refine l_q rfl (q_move rfl rfl) rfl rfl ?_
      refine l_q rfl (q_move rfl rfl) rfl rfl ?_
      refine l_q rfl (q_neq rfl rfl rfl) rfl rfl ?_
      refine l_q rfl (q_move rfl rfl) rfl rfl ?_
      refine Pre.setB (t := 56) (c := false) rfl (by simp) ?_
      refine l_q rfl (q_move rfl rfl) rfl rfl ?_
      refine l_q rfl (q_move rfl rfl) rfl rfl ?_
      refine l_q rfl (q_inc rfl rfl rfl (by omega)) rfl rfl ?_
      refine l_q rfl (q_move rfl rfl) rfl rfl ?_
      refine l_q rfl (q_rem_nn rfl rfl rfl (by omega) (by omega)) rfl rfl ?_
      refine l_q rfl (q_neq rfl rfl rfl) rfl rfl ?_
      refine l_q rfl (q_pick_f rfl rfl rfl) rfl rfl ?_
      refine l_q rfl (q_move rfl rfl) rfl rfl ?_
      refine Pre.setB (t := 64) (c := false) rfl (by rw [← Int.natCast_emod]; simp) ?_
      refine l_q rfl (q_move rfl rfl) rfl rfl ?_
      refine l_q rfl (q_lenV rfl Try.underlying22 rfl (fun _ h => h.rd 0 rfl)) rfl rfl ?_
      refine l_q rfl (q_move rfl rfl) rfl rfl ?_
      refine l_q rfl (q_neq rfl rfl rfl) rfl rfl ?_
      refine l_q rfl (q_pick_f rfl rfl rfl) rfl rfl ?_
      refine l_nil ?_
      refine k_then ?_
      refine Pre.setB (t := 69) (c := false) rfl (by rw [e2]; simp) ?_
      refine c_false rfl ?_
      refine c_skip ?_
      refine k_then ?_
      refine c_seq ?_
      refine c_seq ?_
      refine c_region _ rfl ?_
      refine l_q rfl (q_assign rfl rfl) rfl rfl ?_
      refine l_nil ?_
      refine k_then ?_
      refine c_block ?_
      refine pull2 ?_
      refine pull2 ?_
      refine c_loop1 (fun (j : Nat) => [(1, .int .u8 b0), (7, .int .i64 (i : Int)), (8, x1), (9, x2), (11, .int .i64 (h : Int)), (14, v2), (15, .int .i64 (j : Int))]) (fun (j : Nat) => St w [] [rowE x1 4 encB (List.replicate i true), rowE x2 4 encB (List.replicate i true), rowE v2 4 encB l1]) (fun (j : Nat) => j ≤ i) (fun (j : Nat) => i - j) (0) (Nat.zero_le _) (Sub.cons rfl (Sub.cons rfl (Sub.cons rfl (Sub.cons rfl (Sub.cons rfl (Sub.cons rfl (Sub.cons rfl (Sub.nil)))))))) (fun _ h => h) ?_
      intro j hj
      refine c_seq ?_
      refine c_seq ?_
      refine c_region _ rfl ?_
      refine l_q rfl (q_move rfl rfl) rfl rfl ?_
      refine l_q rfl (q_move rfl rfl) rfl rfl ?_
      refine l_q rfl (q_lss rfl rfl rfl) rfl rfl ?_
      refine l_nil ?_
      refine k_then ?_
      refine Pre.caseB 72 rfl (fun hjl => ?_) (fun hjl => ?_)
      · simp only [decide_eq_true_eq, decide_eq_false_iff_not, Bool.not_eq_true', Bool.not_eq_false'] at hjl
        have hz := e3 j (by omega)
        refine c_true rfl ?_
        refine c_skip ?_
        refine k_then ?_
        refine c_seq ?_
        refine c_block ?_
        refine c_seq ?_
        refine c_region _ rfl ?_
        refine l_q rfl (q_move rfl rfl) rfl rfl ?_
        refine l_q rfl (q_move rfl rfl) rfl rfl ?_
        refine l_q rfl (q_indexV j rfl Try.underlying22 Try.sizeOf4 rfl (fun _ h => h.rd 2 rfl) rfl rfl (by omega)) rfl rfl ?_
        refine l_q rfl (q_loadV j 0 rfl Try.isAgg4 rfl rfl (fun _ h => h.rd 2 rfl) (gb (by omega)) rfl) rfl rfl ?_
        refine l_nil ?_
        refine k_then ?_
        refine Pre.setB (t := 78) (c := false) rfl (hz) ?_
        refine c_false rfl ?_
        refine c_skip ?_
        refine k_block ?_
        refine k_then ?_
        refine c_region _ rfl ?_
        refine l_q rfl (q_move rfl rfl) rfl rfl ?_
        refine l_q rfl (q_inc rfl rfl rfl (by omega)) rfl rfl ?_
        refine l_q rfl (q_assign rfl rfl) rfl rfl ?_
        refine l_nil ?_
        exact k_round (j + 1) (by omega) (by omega) (Sub.cons rfl (Sub.cons rfl (Sub.cons rfl (Sub.cons rfl (Sub.cons rfl (Sub.cons rfl (Sub.cons rfl (Sub.nil)))))))) (fun _ h => h)
      · simp only [decide_eq_true_eq, decide_eq_false_iff_not, Bool.not_eq_true', Bool.not_eq_false'] at hjl
        refine c_false rfl ?_
        refine c_exit ?_
        refine k_then_exit ?_
        refine k_then_exit ?_
        refine k_block_exit ?_
        refine k_then ?_
        refine c_seq ?_
        refine c_region _ rfl ?_
        refine l_q rfl (q_move rfl rfl) rfl rfl ?_
        refine l_q rfl (q_conv_in rfl Try.underlying5 Try.underlying3 rfl (by first | rfl | (simp only [IntKind.wrap]; omega) | exact wrap64_in (by omega))) rfl rfl ?_
        refine l_q rfl (q_move rfl rfl) rfl rfl ?_
        refine l_q rfl (q_rem_nn rfl rfl rfl (by omega) (by omega)) rfl rfl ?_
        refine l_q rfl (q_assign rfl rfl) rfl rfl ?_
        refine l_nil ?_
        refine k_then ?_
        refine c_seq ?_
        refine Pre.setV (t := 16) (c := .int .i64 (b : Int)) rfl (by rw [hb]) ?_
        have hrl : (List.replicate i true).length = i := by simp
        refine c_region _ rfl ?_
        refine l_q rfl (q_move rfl rfl) rfl rfl ?_
        refine l_q rfl (q_move rfl rfl) rfl rfl ?_
        refine l_q rfl (q_indexV b rfl Try.underlying22 Try.sizeOf4 rfl (fun _ h => h.rd 1 rfl) rfl rfl (by omega)) rfl rfl ?_
        refine pull1 ?_
        refine l_e rfl ?_
        refine e_storeV b 0 (false) rfl rfl Try.sizeOf4 rfl rfl rfl (gb (by omega)) (by decide) rfl ?_
        refine l_nil ?_
        refine k_then ?_
        refine c_seq ?_
        refine c_region _ rfl ?_
        refine l_q rfl (q_move rfl rfl) rfl rfl ?_
        refine l_q rfl (q_move rfl rfl) rfl rfl ?_
        refine l_q rfl (q_move rfl rfl) rfl rfl ?_
        refine l_e rfl ?_
        refine e_call_01 (sweep_spec (List.replicate i true) ((List.replicate i true).set b false) (h : Int) (by simp only [Lit.wf, Bool.and_eq_true, decide_eq_true_eq]; exact ⟨by show (-2 ^ 63 : Int) ≤ _; omega, by show _ ≤ (2 ^ 63 - 1 : Int); omega⟩) (by simp; omega)) rfl rfl rfl Try.call9 rfl (fun _ h => ⟨h.rd 1 rfl, h.rd 0 rfl⟩) ?_
        intro v3 _
        rw [f1, r1, r2]
        refine l_q rfl (q_move rfl rfl) rfl rfl ?_
        refine l_q rfl (q_extract rfl rfl rfl) rfl rfl ?_
        refine l_q rfl (q_extract rfl rfl rfl) rfl rfl ?_
        refine l_q rfl (q_extract rfl rfl rfl) rfl rfl ?_
        refine l_q rfl (q_assign rfl rfl) rfl rfl ?_
        refine l_q rfl (q_assign rfl rfl) rfl rfl ?_
        refine l_q rfl (q_assign rfl rfl) rfl rfl ?_
        refine l_nil ?_
        refine k_then ?_
        refine c_seq ?_
        refine c_seq ?_
        refine c_region _ rfl ?_
        refine l_q rfl (q_move rfl rfl) rfl rfl ?_
        refine l_q rfl (q_move rfl rfl) rfl rfl ?_
        refine l_q rfl (q_neq rfl rfl rfl) rfl rfl ?_
        refine l_q rfl (q_move rfl rfl) rfl rfl ?_
        refine Pre.setB (t := 97) (c := false) rfl (by simp) ?_
        refine l_q rfl (q_move rfl rfl) rfl rfl ?_
        refine l_q rfl (q_move rfl rfl) rfl rfl ?_
        refine l_q rfl (q_inc rfl rfl rfl (by omega)) rfl rfl ?_
        refine l_q rfl (q_move rfl rfl) rfl rfl ?_
        refine l_q rfl (q_rem_nn rfl rfl rfl (by omega) (by omega)) rfl rfl ?_
        refine l_q rfl (q_neq rfl rfl rfl) rfl rfl ?_
        refine l_q rfl (q_pick_f rfl rfl rfl) rfl rfl ?_
        refine l_q rfl (q_move rfl rfl) rfl rfl ?_
        refine Pre.setB (t := 105) (c := false) rfl (by rw [← Int.natCast_emod]; simp) ?_
        refine l_q rfl (q_move rfl rfl) rfl rfl ?_
        refine l_q rfl (q_lenV rfl Try.underlying22 rfl (fun _ h => h.rd 0 rfl)) rfl rfl ?_
        refine l_q rfl (q_move rfl rfl) rfl rfl ?_
        refine l_q rfl (q_neq rfl rfl rfl) rfl rfl ?_
        refine l_q rfl (q_pick_f rfl rfl rfl) rfl rfl ?_
        refine l_nil ?_
        refine k_then ?_
        refine Pre.setB (t := 110) (c := false) rfl (by rw [f2]; simp) ?_
        refine c_false rfl ?_
        refine c_skip ?_
        refine k_then ?_
        refine c_seq ?_
        refine c_seq ?_
        refine c_region _ rfl ?_
        refine l_q rfl (q_assign rfl rfl) rfl rfl ?_
        refine l_nil ?_
        refine k_then ?_
        refine c_block ?_
        refine pull2 ?_
        refine drop0 ?_
        refine pull1 ?_
        refine drop0 ?_
        refine pull1 ?_
        refine drop0 ?_
        refine c_loop1 (fun (j2 : Nat) => [(7, .int .i64 (i : Int)), (11, .int .i64 (h : Int)), (16, .int .i64 (b : Int)), (19, v3), (20, .int .i64 (j2 : Int))]) (fun (j2 : Nat) => St w [] [rowE v3 4 encB l2]) (fun (j2 : Nat) => j2 ≤ i) (fun (j2 : Nat) => i - j2) (0) (Nat.zero_le _) (Sub.cons rfl (Sub.cons rfl (Sub.cons rfl (Sub.cons rfl (Sub.cons rfl (Sub.nil)))))) (fun _ h => h) ?_
        intro j2 hj2
        refine c_seq ?_
        refine c_seq ?_
        refine c_region _ rfl ?_
        refine l_q rfl (q_move rfl rfl) rfl rfl ?_
        refine l_q rfl (q_move rfl rfl) rfl rfl ?_
        refine l_q rfl (q_lss rfl rfl rfl) rfl rfl ?_
        refine l_nil ?_
        refine k_then ?_
        refine Pre.caseB 113 rfl (fun hjl2 => ?_) (fun hjl2 => ?_)
        · simp only [decide_eq_true_eq, decide_eq_false_iff_not, Bool.not_eq_true', Bool.not_eq_false'] at hjl2
          refine c_true rfl ?_
          refine c_skip ?_
          refine k_then ?_
          refine c_seq ?_
          refine c_block ?_
          refine c_seq ?_
          refine c_draw [(0, some true), (1, some true), (2, some true), (3, some true), (4, some true), (5, some true), (6, some true), (7, some true), (8, some true), (9, some true), (10, some true), (11, some true), (12, some true), (13, some true), (14, some true), (15, some true)] [] [(_, some true), (_, some true), (_, some true), (_, some true), (_, some true), (_, some true), (_, some true), (_, some true), (_, some true), (_, some true), (_, some true), (_, some true), (_, some true), (_, some true), (_, some true), (_, some true)] _ (blind_then (blind_block (blind_then (blind_then (blind_block (blind_then blind_body)))))) rfl (by kernel_rfl) (by kernel_rfl) rfl rfl rfl (by kernel_rfl) St.drawn (fun _ h => h) ?_
          refine d_q rfl (q_move rfl rfl) rfl rfl ?_
          refine d_q rfl (q_move rfl rfl) rfl rfl ?_
          refine d_q rfl (q_sub64 rfl rfl rfl (by omega)) rfl rfl ?_
          refine d_q rfl (q_move rfl rfl) rfl rfl ?_
          refine d_q rfl (q_add64 rfl rfl rfl (by omega)) rfl rfl ?_
          refine d_q rfl (q_move rfl rfl) rfl rfl ?_
          refine d_q rfl (q_rem_nn rfl rfl rfl (by omega) (by omega)) rfl rfl ?_
          refine d_q rfl (q_move rfl rfl) rfl rfl ?_
          refine d_q rfl (q_move rfl rfl) rfl rfl ?_
          refine d_q rfl (q_sub64 rfl rfl rfl (by omega)) rfl rfl ?_
          refine d_q rfl (q_move rfl rfl) rfl rfl ?_
          refine d_q rfl (q_add64 rfl rfl rfl (by omega)) rfl rfl ?_
          refine d_q rfl (q_move rfl rfl) rfl rfl ?_
          refine d_q rfl (q_rem_nn rfl rfl rfl (by omega) (by omega)) rfl rfl ?_
          refine d_q rfl (q_lss rfl rfl rfl) rfl rfl ?_
          refine d_q rfl (q_assign rfl rfl) rfl rfl ?_
          refine d_nil ?_
          refine k_then ?_
          refine c_seq ?_
          refine c_region _ rfl ?_
          refine l_q rfl (q_move rfl rfl) rfl rfl ?_
          refine l_q rfl (q_move rfl rfl) rfl rfl ?_
          refine l_q rfl (q_neq rfl rfl rfl) rfl rfl ?_
          refine l_q rfl (q_move rfl rfl) rfl rfl ?_
          refine Pre.caseB 134 rfl (fun hne => ?_) (fun hne => ?_)
          · simp only [decide_eq_true_eq, decide_eq_false_iff_not, Bool.not_eq_true', Bool.not_eq_false'] at hne
            have hq : (l2.getD j2 false == decide (((j2 : Int) - (h : Int) + (i : Int)) % (i : Int) < ((b : Int) - (h : Int) + (i : Int)) % (i : Int))) = false := by
              rw [f3 j2 (by omega) (by omega), rkI hhn, rkI hhn]
              by_cases hz : (j2 + i - h) % i < (b + i - h) % i
              · rw [decide_eq_true hz, decide_eq_true (Int.ofNat_lt.2 hz)]; rfl
              · rw [decide_eq_false hz, decide_eq_false (fun x => hz (Int.ofNat_lt.1 x))]; rfl
            refine l_q rfl (q_move rfl rfl) rfl rfl ?_
            refine l_q rfl (q_move rfl rfl) rfl rfl ?_
            refine l_q rfl (q_indexV j2 rfl Try.underlying22 Try.sizeOf4 rfl (fun _ h => h.rd 0 rfl) rfl rfl (by omega)) rfl rfl ?_
            refine l_q rfl (q_loadV j2 0 rfl Try.isAgg4 rfl rfl (fun _ h => h.rd 0 rfl) (gb (by omega)) rfl) rfl rfl ?_
            refine l_q rfl (q_move rfl rfl) rfl rfl ?_
            refine l_q rfl (q_eqb rfl Try.underlying4 rfl rfl) rfl rfl ?_
            refine l_q rfl (q_pick_t rfl rfl rfl) rfl rfl ?_
            refine l_nil ?_
            refine k_then ?_
            refine Pre.setB (t := 141) (c := false) rfl (hq) ?_
            refine c_false rfl ?_
            refine c_skip ?_
            refine k_block ?_
            refine k_then ?_
            refine c_region _ rfl ?_
            refine l_q rfl (q_move rfl rfl) rfl rfl ?_
            refine l_q rfl (q_inc rfl rfl rfl (by omega)) rfl rfl ?_
            refine l_q rfl (q_assign rfl rfl) rfl rfl ?_
            refine l_nil ?_
            exact k_round (j2 + 1) (by omega) (by omega) (Sub.cons rfl (Sub.cons rfl (Sub.cons rfl (Sub.cons rfl (Sub.cons rfl (Sub.nil)))))) (fun _ h => h)
          · simp only [decide_eq_true_eq, decide_eq_false_iff_not, Bool.not_eq_true', Bool.not_eq_false'] at hne
            refine l_not rfl rfl rfl ?_
            refine l_not rfl rfl rfl ?_
            refine l_not rfl rfl rfl ?_
            refine l_not rfl rfl rfl ?_
            refine l_not rfl rfl rfl ?_
            refine l_not rfl rfl rfl ?_
            refine l_q rfl (q_pick_f rfl rfl rfl) rfl rfl ?_
            refine l_nil ?_
            refine k_then ?_
            refine c_false rfl ?_
            refine c_skip ?_
            refine k_block ?_
            refine k_then ?_
            refine c_region _ rfl ?_
            refine l_q rfl (q_move rfl rfl) rfl rfl ?_
            refine l_q rfl (q_inc rfl rfl rfl (by omega)) rfl rfl ?_
            refine l_q rfl (q_assign rfl rfl) rfl rfl ?_
            refine l_nil ?_
            exact k_round (j2 + 1) (by omega) (by omega) (Sub.cons rfl (Sub.cons rfl (Sub.cons rfl (Sub.cons rfl (Sub.cons rfl (Sub.nil)))))) (fun _ h => h)
        · simp only [decide_eq_true_eq, decide_eq_false_iff_not, Bool.not_eq_true', Bool.not_eq_false'] at hjl2
          refine c_false rfl ?_
          refine c_exit ?_
          refine k_then_exit ?_
          refine k_then_exit ?_
          refine k_block_exit ?_
          refine k_then ?_
          refine c_seq ?_
          refine c_region _ rfl ?_
          refine l_e rfl ?_
          refine e_call_00 (awake_spec) rfl rfl rfl Try.call8 rfl (fun _ _ => trivial) ?_
          intro _ _
          refine l_q rfl (q_assign rfl rfl) rfl rfl ?_
          refine l_nil ?_
          refine k_then ?_
          refine c_ret ?_
          refine r_one rfl rfl ?_
          exact fun _ h => ⟨(), rfl, trivial, h.nothing⟩
theorem clockSecond_walk (w : World) (a0 : Int) (w0 : (Lit.int .u8 a0).wf = true) (a1 : Int) (w1 : (Lit.int .u8 a1).wf = true) (a2 : Int) (w2 : (Lit.int .u8 a2).wf = true) :
    Calls Try.prog 7 #[.int .u8 a0, .int .u8 a1, .int .u8 a2] w fun e w' => e = .returned (.bool true) ∧ Below w.heap.size w w' :=
  con_walk (second_spec a0 a1 a2 w0 w1 w2) trivial
end Go.Proofs.Ythjnfbpimcdndaa
