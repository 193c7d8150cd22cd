/- ClockTurns, walked -/
import Derived.Test.YthjnfbpimcdndaaWClockGoes
set_option linter.unusedVariables false
set_option linter.unusedSimpArgs false
namespace Go.Proofs.Ythjnfbpimcdndaa
open Go.Sep Go.RowKit

theorem modk {a k n : Nat} (ha : a < n) (hk : k < n) : (a + k) % n = if a + k < n then a + k else a + k - n := by
  split
  · rename_i h; exact Nat.mod_eq_of_lt h
  · rw [Nat.mod_eq_sub_mod (by omega)]; exact Nat.mod_eq_of_lt (by omega)
theorem rot_inj {a b k n : Nat} (ha : a < n) (hb : b < n) (hk : k < n) (h : (a + k) % n = (b + k) % n) : a = b := by
  rw [modk ha hk, modk hb hk] at h
  split at h <;> split at h <;> omega
/-- A ring turned by k, so far as it is written. -/
def rotL (cs : List Bool) (n k i : Nat) : List Bool := (List.range i).foldl (fun m j => m.set ((j + k) % n) (cs.getD j false)) (List.replicate n false)
theorem rotL_succ (cs : List Bool) (n k i : Nat) : rotL cs n k (i + 1) = (rotL cs n k i).set ((i + k) % n) (cs.getD i false) := by simp [rotL, List.range_succ]
theorem rotL_len (cs : List Bool) (n k : Nat) : ∀ i, (rotL cs n k i).length = n
  | 0 => by simp [rotL]
  | i + 1 => by rw [rotL_succ, List.length_set, rotL_len cs n k i]
theorem set_get {l : List Bool} {k j : Nat} {x : Bool} (h : k < l.length) : (l.set k x).getD j false = if k = j then x else l.getD j false := by
  simp only [List.getD_eq_getElem?_getD, List.getElem?_set]
  by_cases hk : k = j
  · subst hk; simp [h]
  · simp [hk]
theorem rotL_get {cs : List Bool} {n k : Nat} (hk : k < n) : ∀ i, i ≤ n → ∀ j, j < i → (rotL cs n k i).getD ((j + k) % n) false = cs.getD j false
  | 0, _, j, h => by omega
  | i + 1, hi, j, h => by
    rw [rotL_succ, set_get (by rw [rotL_len]; exact Nat.mod_lt _ (by omega))]
    split
    · rename_i e; rw [rot_inj (by omega) (by omega) hk e]
    · rename_i e
      have hj : j ≠ i := fun x => e (by rw [x])
      exact rotL_get hk i (by omega) j (by omega)
theorem scn_rot {cs a : List Bool} {n k : Nat} (hk : k < n) (hc : ∀ j, j < n → a.getD ((j + k) % n) false = cs.getD j false) : ∀ (js : List Nat) (rs b : List Bool), (∀ j ∈ js, j < n) → b.length = n → rs.length = n →
    (∀ j, j < n → b.getD ((j + k) % n) false = rs.getD j false) → (scn a (js.map (fun j => (j + k) % n)) b).1 = (scn cs js rs).1.map (fun j => (j + k) % n)
  | [], rs, b, _, _, _, _ => rfl
  | x :: js, rs, b, h, hb, hr, hd => by
    have hx := h x (List.mem_cons_self ..)
    have h' : ∀ j ∈ js, j < n := fun j hj => h j (List.mem_cons_of_mem _ hj)
    rw [List.map_cons, scn_cons, scn_cons, hc x hx, hd x hx]
    split
    · split
      · refine scn_rot hk hc js _ _ h' (by simpa using hb) (by simpa using hr) (fun j hj => ?_)
        rw [set_get (by rw [hb]; exact Nat.mod_lt _ (by omega)), set_get (by omega)]
        by_cases e : x = j
        · subst e; rw [if_pos rfl, if_pos rfl]
        · rw [if_neg (fun x2 => e (rot_inj hx hj hk x2)), if_neg e]; exact hd j hj
      · rfl
    · exact scn_rot hk hc js _ _ h' hb hr hd
theorem spots_rot {n h k : Nat} : spots n ((h + k) % n) = (spots n h).map (fun j => (j + k) % n) := by
  unfold spots
  rw [List.map_map]
  refine List.map_congr_left (fun i _ => ?_)
  show ((h + k) % n + i) % n = ((h + i) % n + k) % n
  rw [Nat.mod_add_mod, Nat.mod_add_mod, Nat.add_right_comm]
theorem spots_lt {n h j : Nat} (hn : 0 < n) (hj : j ∈ spots n h) : j < n := by
  unfold spots at hj
  obtain ⟨i, _, rfl⟩ := List.mem_map.1 hj
  exact Nat.mod_lt _ hn
theorem turns {cs rs : List Bool} {h k : Nat} (hk : k < cs.length) (hl : rs.length = cs.length) :
    (swM (rotL cs cs.length k cs.length) (rotL rs cs.length k cs.length) ((h : Int) + (k : Int))).1 = (swM cs rs (h : Int)).1.map (fun j => (j + k) % cs.length) := by
  have hp : 0 < cs.length := by omega
  have l1 := rotL_len cs cs.length k cs.length
  have l2 := rotL_len rs cs.length k cs.length
  unfold swM
  rw [if_neg (by rintro (e | e); rw [e] at l1; simp at l1; omega; exact e (by rw [l1, l2])), if_neg (by rintro (e | e); subst e; simp at hp; exact e hl), l1]
  rw [show (((h : Int) + (k : Int)) % (cs.length : Int)).toNat = (h + k) % cs.length from by rw [← Int.natCast_add, ← Int.natCast_emod]; rfl, show ((h : Int) % (cs.length : Int)).toNat = h % cs.length from by rw [← Int.natCast_emod]; rfl]
  rw [show (h + k) % cs.length = (h % cs.length + k) % cs.length from by rw [Nat.mod_add_mod], spots_rot]
  exact scn_rot hk (fun j hj => rotL_get hk _ (Nat.le_refl _) j hj) _ _ _ (fun j hj => spots_lt hp hj) l2 hl (fun j hj => rotL_get hk _ (Nat.le_refl _) j hj)
def pOf : Option Nat → Int
  | none => -1
  | some k => (k : Int)
def nOf (hd : Int) (n : Nat) : Option Nat → Int
  | none => hd % (n : Int)
  | some k => (((k + 1) % n : Nat) : Int)
theorem sw_val {cs rs : List Bool} {hd : Int} {o : Option Nat} (hp : 0 < cs.length) (hl : rs.length = cs.length) (h : (swM cs rs hd).1 = o) : swP cs rs hd = pOf o ∧ swN cs rs hd = nOf hd cs.length o := by
  unfold swP swN
  rw [if_neg (by rintro (e | e); subst e; simp at hp; exact e hl)]
  subst h
  cases (swM cs rs hd).1 <;> exact ⟨rfl, rfl⟩
theorem nrm {x n : Int} (hn : 0 < n) (hb : n ≤ 64) : ∃ k : Nat, (x.tmod n + n) % n = (k : Int) ∧ (k : Int) < n := by
  have h1 := Int.emod_nonneg (x.tmod n + n) (by omega : n ≠ 0)
  have h2 := Int.emod_lt_of_pos (x.tmod n + n) hn
  exact ⟨((x.tmod n + n) % n).toNat, by omega, by omega⟩
set_option maxRecDepth 100000 in
set_option maxHeartbeats 1000000 in
theorem turns_spec {va vb : Value} (cs rs0 : List Bool) (hand by0 : Int) (hw : (Lit.int .i64 hand).wf = true) (hw2 : (Lit.int .i64 by0).wf = true) : Con Try.prog 6 [va, vb, .int .i64 hand, .int .i64 by0] (fun w => RdV w va encB cs ∧ RdV w vb encB rs0) [] (fun _ : Unit => .bool true) (fun _ => True) (fun _ => []) := by
  intro w hE hH
  obtain ⟨ha, hb⟩ := hE
  refine enter (n := 133) (vs := [va, vb, .int .i64 hand, .int .i64 by0]) (St w [] []) Try.func6 rfl rfl rfl (St.init hH) ?_
  refine c_seq ?_
  refine c_region _ rfl ?_
  refine l_q rfl (q_assign rfl rfl) rfl rfl ?_
  refine l_nil ?_
  refine k_then ?_
  refine c_seq ?_
  refine c_region _ rfl ?_
  refine l_q rfl (q_move rfl rfl) rfl rfl ?_
  refine l_q rfl (q_lenV rfl Try.underlying22 rfl (fun _ h => ha.keep h (by simp [dom]))) rfl rfl ?_
  refine l_q rfl (q_assign rfl rfl) rfl rfl ?_
  refine l_nil ?_
  refine k_then ?_
  refine c_seq ?_
  refine c_seq ?_
  refine c_region _ rfl ?_
  refine l_q rfl (q_move rfl rfl) rfl rfl ?_
  refine l_q rfl (q_eql rfl rfl rfl) rfl rfl ?_
  refine l_q rfl (q_move rfl rfl) rfl rfl ?_
  refine Pre.caseB 26 rfl (fun h1 => ?_) (fun h1 => ?_)
  · simp only [decide_eq_true_eq, decide_eq_false_iff_not, Bool.not_eq_true', Bool.not_eq_false'] at h1
    refine l_not rfl rfl rfl ?_
    refine l_not rfl rfl rfl ?_
    refine l_q rfl (q_pick_t rfl rfl rfl) rfl rfl ?_
    refine l_nil ?_
    refine k_then ?_
    refine c_true rfl ?_
    refine c_seq ?_
    refine c_region _ rfl ?_
    refine l_e rfl ?_
    refine e_call_00 (awake_spec) rfl rfl rfl Try.call8 rfl (fun _ _ => trivial) ?_
    intro _ _
    refine l_q rfl (q_assign rfl rfl) rfl rfl ?_
    refine l_nil ?_
    refine k_then ?_
    refine c_ret ?_
    refine k_then_ret ?_
    refine r_one rfl rfl ?_
    exact fun _ h => ⟨(), rfl, trivial, h.nothing⟩
  · simp only [decide_eq_true_eq, decide_eq_false_iff_not, Bool.not_eq_true', Bool.not_eq_false'] at h1
    refine l_q rfl (q_move rfl rfl) rfl rfl ?_
    refine l_q rfl (q_gtr rfl rfl rfl) rfl rfl ?_
    refine l_q rfl (q_pick_f rfl rfl rfl) rfl rfl ?_
    refine l_nil ?_
    refine k_then ?_
    refine Pre.caseB 29 rfl (fun h2 => ?_) (fun h2 => ?_)
    · simp only [decide_eq_true_eq, decide_eq_false_iff_not, Bool.not_eq_true', Bool.not_eq_false'] at h2
      refine c_true rfl ?_
      refine c_seq ?_
      refine c_region _ rfl ?_
      refine l_e rfl ?_
      refine e_call_00 (awake_spec) rfl rfl rfl Try.call8 rfl (fun _ _ => trivial) ?_
      intro _ _
      refine l_q rfl (q_assign rfl rfl) rfl rfl ?_
      refine l_nil ?_
      refine k_then ?_
      refine c_ret ?_
      refine k_then_ret ?_
      refine r_one rfl rfl ?_
      exact fun _ h => ⟨(), rfl, trivial, h.nothing⟩
    · simp only [decide_eq_true_eq, decide_eq_false_iff_not, Bool.not_eq_true', Bool.not_eq_false'] at h2
      have hp : 0 < cs.length := by omega
      have b1hand := Int.tmod_lt_of_pos hand (show (0 : Int) < (cs.length : Int) by omega)
      have b2hand : -(cs.length : Int) < hand.tmod (cs.length : Int) := Int.lt_tmod_of_pos hand (by omega)
      have b1by0 := Int.tmod_lt_of_pos by0 (show (0 : Int) < (cs.length : Int) by omega)
      have b2by0 : -(cs.length : Int) < by0.tmod (cs.length : Int) := Int.lt_tmod_of_pos by0 (by omega)
      obtain ⟨k, hk, hkn⟩ := nrm (x := by0) (n := (cs.length : Int)) (by omega) (by omega)
      obtain ⟨h, hh, hhn⟩ := nrm (x := hand) (n := (cs.length : Int)) (by omega) (by omega)
      refine c_false rfl ?_
      refine c_skip ?_
      refine k_then ?_
      refine c_seq ?_
      refine c_region _ rfl ?_
      refine l_q rfl (q_move rfl rfl) rfl rfl ?_
      refine l_q rfl (q_move rfl rfl) rfl rfl ?_
      refine l_e rfl ?_
      refine e_call_01 (pad_spec rs0 cs.length (by omega)) rfl rfl rfl Try.call15 rfl (fun _ h => hb.keep h (by simp)) ?_
      intro v1 _
      refine l_q rfl (q_assign rfl rfl) rfl rfl ?_
      refine l_nil ?_
      refine k_then ?_
      refine c_seq ?_
      refine c_region _ rfl ?_
      refine l_q rfl (q_move rfl rfl) rfl rfl ?_
      refine l_q rfl (q_move rfl rfl) rfl rfl ?_
      refine l_q rfl (q_rem rfl rfl rfl (by omega)) rfl rfl ?_
      refine l_q rfl (q_move rfl rfl) rfl rfl ?_
      refine l_q rfl (q_add64 rfl rfl rfl (by omega)) rfl rfl ?_
      refine l_q rfl (q_move rfl rfl) rfl rfl ?_
      refine l_q rfl (q_rem_nn rfl rfl rfl (by omega) (by omega)) rfl rfl ?_
      refine l_q rfl (q_assign rfl rfl) rfl rfl ?_
      refine l_nil ?_
      refine k_then ?_
      refine c_seq ?_
      refine c_region _ rfl ?_
      refine l_q rfl (q_move rfl rfl) rfl rfl ?_
      refine l_q rfl (q_move rfl rfl) rfl rfl ?_
      refine l_q rfl (q_rem rfl rfl rfl (by omega)) rfl rfl ?_
      refine l_q rfl (q_move rfl rfl) rfl rfl ?_
      refine l_q rfl (q_add64 rfl rfl rfl (by omega)) rfl rfl ?_
      refine l_q rfl (q_move rfl rfl) rfl rfl ?_
      refine l_q rfl (q_rem_nn rfl rfl rfl (by omega) (by omega)) rfl rfl ?_
      refine l_q rfl (q_assign rfl rfl) rfl rfl ?_
      refine l_nil ?_
      refine k_then ?_
      refine c_seq ?_
      have hrl := pad_len rs0 cs.length
      generalize padL rs0 cs.length = rs at *
      refine Pre.setV (t := 11) (c := .int .i64 (k : Int)) rfl (by rw [hk]) ?_
      refine Pre.setV (t := 12) (c := .int .i64 (h : Int)) rfl (by rw [hh]) ?_
      refine c_meet2 (fun (x1 : Value) (x2 : Value) => [(0, va), (9, .int .i64 (cs.length : Int)), (10, v1), (11, .int .i64 (k : Int)), (12, .int .i64 (h : Int)), (13, x1), (14, x2)]) (fun (x1 : Value) (x2 : Value) => St w [] [rowE x1 4 encB (List.replicate cs.length false), rowE x2 4 encB (List.replicate cs.length false), rowE v1 4 encB rs]) (fun (x1 : Value) (x2 : Value) => True) ?_ ?_
      · refine c_any (fun _ => True) rfl St.drawn ?_
        refine a_q (blind_then blind_body) 0 rfl (by kernel_rfl) (by kernel_rfl) (by kernel_rfl) (fun _ _ => trivial) rfl (q_move rfl rfl) rfl rfl ?_
        refine a_q (blind_then blind_body) 2 rfl (by kernel_rfl) (by kernel_rfl) (by kernel_rfl) (fun _ _ => trivial) rfl (q_move rfl rfl) rfl rfl ?_
        refine a_all2 1 3 (by kernel_rfl) rfl rfl rfl rfl ?_ ?_ 
        · refine e_makeSlice encB false cs.length rfl rfl rfl Try.underlying22 info4 rfl rfl rfl rfl rfl rfl rfl (by simp only [byt4]; omega) (by omega) ?_
          intro y1
          refine d_held (fun _ _ => trivial) ?_
          refine a_q (blind_then blind_body) 4 rfl (by kernel_rfl) (by kernel_rfl) (by kernel_rfl) (fun _ _ => trivial) rfl (q_assign rfl rfl) rfl rfl ?_
          refine a_all1 3 (by kernel_rfl) rfl rfl ?_
          refine e_makeSlice encB false cs.length rfl rfl rfl Try.underlying22 info4 rfl rfl rfl rfl rfl rfl rfl (by simp only [byt4]; omega) (by omega) ?_
          intro y2
          refine d_held (fun _ _ => trivial) ?_
          refine a_q (blind_then blind_body) 5 rfl (by kernel_rfl) (by kernel_rfl) (by kernel_rfl) (fun _ _ => trivial) rfl (q_assign rfl rfl) rfl rfl ?_
          refine a_nil (by kernel_rfl) ?_
          refine pull2 ?_
          refine pull1 ?_
          refine pull2 ?_
          exact k_meet ((y1, y2)) trivial (Sub.cons rfl (Sub.cons rfl (Sub.cons rfl (Sub.cons rfl (Sub.cons rfl (Sub.cons rfl (Sub.cons rfl (Sub.nil)))))))) (fun _ h => h)
        · refine e_makeSlice encB false cs.length rfl rfl rfl Try.underlying22 info4 rfl rfl rfl rfl rfl rfl rfl (by simp only [byt4]; omega) (by omega) ?_
          intro y1
          refine d_held (fun _ _ => trivial) ?_
          refine a_all1 1 (by kernel_rfl) rfl rfl ?_
          refine e_makeSlice encB false cs.length rfl rfl rfl Try.underlying22 info4 rfl rfl rfl rfl rfl rfl rfl (by simp only [byt4]; omega) (by omega) ?_
          intro y2
          refine d_held (fun _ _ => trivial) ?_
          refine a_q (blind_then blind_body) 4 rfl (by kernel_rfl) (by kernel_rfl) (by kernel_rfl) (fun _ _ => trivial) rfl (q_assign rfl rfl) rfl rfl ?_
          refine a_q (blind_then blind_body) 5 rfl (by kernel_rfl) (by kernel_rfl) (by kernel_rfl) (fun _ _ => trivial) rfl (q_assign rfl rfl) rfl rfl ?_
          refine a_nil (by kernel_rfl) ?_
          refine pull2 ?_
          refine pull2 ?_
          refine pull2 ?_
          exact k_meet ((y2, y1)) trivial (Sub.cons rfl (Sub.cons rfl (Sub.cons rfl (Sub.cons rfl (Sub.cons rfl (Sub.cons rfl (Sub.cons rfl (Sub.nil)))))))) (fun _ h => h)
      · intro x1 x2 _
        refine c_seq ?_
        refine c_seq ?_
        refine Pre.fact (fun _ h => rd_open (h.rd 0 rfl) (by simpa using hp)) ?_
        rintro ⟨b1, o2, c3, rfl⟩
        refine Pre.fact (fun _ h => rd_open (h.rd 1 rfl) (by simpa using hp)) ?_
        rintro ⟨b4, o5, c6, rfl⟩
        simp only [List.length_replicate] at *
        refine c_region _ rfl ?_
        refine l_q rfl (q_assign rfl rfl) rfl rfl ?_
        refine l_nil ?_
        refine k_then ?_
        refine c_block ?_
        refine pull2 ?_
        refine pull2 ?_
        refine pull2 ?_
        refine c_loop1 (fun (i : Nat) => [(0, va), (9, .int .i64 (cs.length : Int)), (10, v1), (11, .int .i64 (k : Int)), (12, .int .i64 (h : Int)), (13, (.slice (some ⟨b1, o2, none⟩) cs.length c3)), (14, (.slice (some ⟨b4, o5, none⟩) cs.length c6)), (15, .int .i64 (i : Int))]) (fun (i : Nat) => St w [] [rowE (.slice (some ⟨b1, o2, none⟩) cs.length c3) 4 encB (rotL cs cs.length k i), rowE (.slice (some ⟨b4, o5, none⟩) cs.length c6) 4 encB (rotL rs cs.length k i), rowE v1 4 encB rs]) (fun (i : Nat) => i ≤ cs.length) (fun (i : Nat) => cs.length - i) (0) (Nat.zero_le _) (Sub.cons rfl (Sub.cons rfl (Sub.cons rfl (Sub.cons rfl (Sub.cons rfl (Sub.cons rfl (Sub.cons rfl (Sub.cons rfl (Sub.nil))))))))) (fun _ h => h) ?_
        intro i hi
        refine c_seq ?_
        refine c_seq ?_
        refine c_region _ rfl ?_
        refine l_q rfl (q_move rfl rfl) rfl rfl ?_
        refine l_q rfl (q_move rfl rfl) rfl rfl ?_
        refine l_q rfl (q_lss rfl rfl rfl) rfl rfl ?_
        refine l_nil ?_
        refine k_then ?_
        refine Pre.caseB 54 rfl (fun hil => ?_) (fun hil => ?_)
        · simp only [decide_eq_true_eq, decide_eq_false_iff_not, Bool.not_eq_true', Bool.not_eq_false'] at hil
          have hml1 := rotL_len cs cs.length k i
          have hml2 := rotL_len rs cs.length k i
          have hjl := Nat.mod_lt (i + k) hp
          have hij : ((i : Int) + (k : Int)) % (cs.length : Int) = (((i + k) % cs.length : Nat) : Int) := by rw [← Int.natCast_add, ← Int.natCast_emod]
          refine c_true rfl ?_
          refine c_skip ?_
          refine k_then ?_
          refine c_seq ?_
          refine c_block ?_
          refine c_draw [(0, some true), (1, some true), (2, some true), (3, some true), (4, some true), (5, some true), (6, some true), (7, some true), (8, some true), (9, some true), (10, some true), (11, some true), (12, some true), (13, some true), (14, some true), (15, some true), (16, some true), (17, some true), (18, some true), (19, some true), (20, some true), (21, some false), (22, some true), (23, none)] [23] [(_, some true), (_, some true), (_, some true), (_, some true), (_, some true), (_, some true), (_, some true), (_, some true), (_, some true), (_, some true), (_, some true), (_, some true), (_, some true), (_, some true), (_, some true), (_, some true), (_, some true), (_, some true), (_, some true), (_, some true), (_, some true), (_, some false), (_, some true), (_, none)] (fun w2 => RdV w2 va encB cs ∧ RdV w2 v1 encB rs) (blind_block (blind_then (blind_then (blind_block (blind_then blind_body))))) rfl (by kernel_rfl) (by kernel_rfl) rfl rfl rfl (by kernel_rfl) St.drawn (fun _ h => ⟨ha.keep h (by simp), h.rd 2 rfl⟩) ?_
          refine d_q rfl (q_move rfl rfl) rfl rfl ?_
          refine d_q rfl (q_move rfl rfl) rfl rfl ?_
          refine d_q rfl (q_move rfl rfl) rfl rfl ?_
          refine d_q rfl (q_add64 rfl rfl rfl (by omega)) rfl rfl ?_
          refine d_q rfl (q_move rfl rfl) rfl rfl ?_
          refine d_q rfl (q_rem_nn rfl rfl rfl (by omega) (by omega)) rfl rfl ?_
          refine d_q rfl (q_move rfl rfl) rfl rfl ?_
          refine d_q rfl (q_move rfl rfl) rfl rfl ?_
          refine d_q rfl (q_move rfl rfl) rfl rfl ?_
          refine d_q rfl (q_add64 rfl rfl rfl (by omega)) rfl rfl ?_
          refine d_q rfl (q_move rfl rfl) rfl rfl ?_
          refine d_q rfl (q_rem_nn rfl rfl rfl (by omega) (by omega)) rfl rfl ?_
          refine d_q rfl (q_move rfl rfl) rfl rfl ?_
          refine d_q rfl (q_move rfl rfl) rfl rfl ?_
          refine d_q rfl (q_indexV i rfl Try.underlying22 Try.sizeOf4 rfl (fun _ h => h.1) rfl rfl (by omega)) rfl rfl ?_
          refine d_q rfl (q_loadV i 0 rfl Try.isAgg4 rfl rfl (fun _ h => h.1) (gb (by omega)) rfl) rfl rfl ?_
          refine d_q rfl (q_move rfl rfl) rfl rfl ?_
          refine d_q rfl (q_move rfl rfl) rfl rfl ?_
          refine d_q rfl (q_indexV i rfl Try.underlying22 Try.sizeOf4 rfl (fun _ h => h.2) rfl rfl (by omega)) rfl rfl ?_
          refine d_q rfl (q_loadV i 0 rfl Try.isAgg4 rfl rfl (fun _ h => h.2) (gb (by omega)) rfl) rfl rfl ?_
          refine d_q rfl (q_indexAddr ((i + k) % cs.length) rfl Try.underlying22 Try.sizeOf4 rfl rfl hij (by omega)) rfl rfl ?_
          refine d_e rfl ?_
          refine e_storeV ((i + k) % cs.length) 0 (cs.getD i false) rfl rfl Try.sizeOf4 rfl rfl rfl (gb (by omega)) (by decide) rfl ?_
          refine d_held (fun _ h => ⟨ha.keep h (by simp), h.rd 2 rfl⟩) ?_
          refine d_q rfl (q_indexAddr ((i + k) % cs.length) rfl Try.underlying22 Try.sizeOf4 rfl rfl hij (by omega)) rfl rfl ?_
          refine pull1 ?_
          refine d_t rfl ?_
          refine e_storeV ((i + k) % cs.length) 0 (rs.getD i false) rfl rfl Try.sizeOf4 rfl rfl rfl (gb (by omega)) (by decide) rfl ?_
          refine d_nil ?_
          refine k_block ?_
          refine k_then ?_
          refine c_region _ rfl ?_
          refine l_q rfl (q_move rfl rfl) rfl rfl ?_
          refine l_q rfl (q_inc rfl rfl rfl (by omega)) rfl rfl ?_
          refine l_q rfl (q_assign rfl rfl) rfl rfl ?_
          refine l_nil ?_
          refine pull1 ?_
          refine pull2 ?_
          refine pull2 ?_
          refine row_eq (rotL_succ rs cs.length k i).symm ?_
          refine pull1 ?_
          refine pull1 ?_
          refine pull2 ?_
          refine row_eq (rotL_succ cs cs.length k i).symm ?_
          exact k_round (i + 1) (by omega) (by omega) (Sub.cons rfl (Sub.cons rfl (Sub.cons rfl (Sub.cons rfl (Sub.cons rfl (Sub.cons rfl (Sub.cons rfl (Sub.cons rfl (Sub.nil))))))))) (fun _ h => h)
        · simp only [decide_eq_true_eq, decide_eq_false_iff_not, Bool.not_eq_true', Bool.not_eq_false'] at hil
          have hie : i = cs.length := by omega
          subst hie
          have l1 := rotL_len cs cs.length k cs.length
          have l2 := rotL_len rs cs.length k cs.length
          have htn := turns (cs := cs) (rs := rs) (h := h) (k := k) (by omega) hrl
          generalize rotL cs cs.length k cs.length = ta at *
          generalize rotL rs cs.length k cs.length = tb at *
          refine c_false rfl ?_
          refine c_exit ?_
          refine k_then_exit ?_
          refine k_then_exit ?_
          refine k_block_exit ?_
          refine k_then ?_
          refine c_seq ?_
          refine c_region _ rfl ?_
          refine l_q rfl (q_move rfl rfl) rfl rfl ?_
          refine l_q rfl (q_move rfl rfl) rfl rfl ?_
          refine l_q rfl (q_move rfl rfl) rfl rfl ?_
          refine l_e rfl ?_
          refine e_call_01 (sweep_spec cs rs (h : Int) (by simp only [Lit.wf, Bool.and_eq_true, decide_eq_true_eq]; exact ⟨by show (-2 ^ 63 : Int) ≤ _; omega, by show _ ≤ (2 ^ 63 - 1 : Int); omega⟩) (by omega)) rfl rfl rfl Try.call9 rfl (fun _ h => ⟨ha.keep h (by simp), h.rd 2 rfl⟩) ?_
          intro v2 _
          refine l_q rfl (q_move rfl rfl) rfl rfl ?_
          refine l_q rfl (q_extract rfl rfl rfl) rfl rfl ?_
          refine l_q rfl (q_extract rfl rfl rfl) rfl rfl ?_
          refine l_q rfl (q_extract rfl rfl rfl) rfl rfl ?_
          refine l_q rfl (q_assign rfl rfl) rfl rfl ?_
          refine l_q rfl (q_assign rfl rfl) rfl rfl ?_
          refine l_q rfl (q_assign rfl rfl) rfl rfl ?_
          refine l_nil ?_
          refine k_then ?_
          refine c_seq ?_
          refine c_region _ rfl ?_
          refine l_q rfl (q_move rfl rfl) rfl rfl ?_
          refine l_q rfl (q_move rfl rfl) rfl rfl ?_
          refine l_q rfl (q_move rfl rfl) rfl rfl ?_
          refine l_q rfl (q_move rfl rfl) rfl rfl ?_
          refine l_q rfl (q_add64 rfl rfl rfl (by omega)) rfl rfl ?_
          refine l_e rfl ?_
          refine e_call_01 (sweep_spec ta tb ((h : Int) + (k : Int)) (by simp only [Lit.wf, Bool.and_eq_true, decide_eq_true_eq]; exact ⟨by show (-2 ^ 63 : Int) ≤ _; omega, by show _ ≤ (2 ^ 63 - 1 : Int); omega⟩) (by omega)) rfl rfl rfl Try.call9 rfl (fun _ h => ⟨h.rd 1 rfl, h.rd 2 rfl⟩) ?_
          intro v3 _
          refine l_q rfl (q_move rfl rfl) rfl rfl ?_
          refine l_q rfl (q_extract rfl rfl rfl) rfl rfl ?_
          refine l_q rfl (q_extract rfl rfl rfl) rfl rfl ?_
          refine l_q rfl (q_extract rfl rfl rfl) rfl rfl ?_
          refine l_q rfl (q_assign rfl rfl) rfl rfl ?_
          refine l_q rfl (q_assign rfl rfl) rfl rfl ?_
          refine l_q rfl (q_assign rfl rfl) rfl rfl ?_
          refine l_nil ?_
          refine k_then ?_
          refine c_seq ?_
          refine c_seq ?_
          refine c_region _ rfl ?_
          refine l_q rfl (q_move rfl rfl) rfl rfl ?_
          refine l_q rfl (q_lss rfl rfl rfl) rfl rfl ?_
          refine l_nil ?_
          refine k_then ?_
          refine Pre.caseB 98 rfl (fun hpl => ?_) (fun hpl => ?_)
          · simp only [decide_eq_true_eq, decide_eq_false_iff_not, Bool.not_eq_true', Bool.not_eq_false'] at hpl
            have ho := sw_none.1 hpl
            rw [ho] at htn
            obtain ⟨e1, e2⟩ := sw_val hp hrl ho
            obtain ⟨e3, e4⟩ := sw_val (by omega) (by omega) htn
            simp only [Option.map_none, Option.map_some, pOf, nOf] at e1 e2 e3 e4
            rw [l1] at e4
            rw [← Int.natCast_emod, Nat.mod_eq_of_lt (by omega : h < cs.length)] at e2
            refine c_true rfl ?_
            refine c_seq ?_
            refine c_region _ rfl ?_
            refine l_q rfl (q_move rfl rfl) rfl rfl ?_
            refine l_q rfl (q_move rfl rfl) rfl rfl ?_
            refine l_q rfl (q_eql rfl rfl rfl) rfl rfl ?_
            refine l_q rfl (q_move rfl rfl) rfl rfl ?_
            refine Pre.setB (t := 102) (c := true) rfl (by rw [e1, e3]; rfl) ?_
            refine l_q rfl (q_move rfl rfl) rfl rfl ?_
            refine l_q rfl (q_move rfl rfl) rfl rfl ?_
            refine l_q rfl (q_move rfl rfl) rfl rfl ?_
            refine l_q rfl (q_add64 rfl rfl rfl (by omega)) rfl rfl ?_
            refine l_q rfl (q_move rfl rfl) rfl rfl ?_
            refine l_q rfl (q_rem_nn rfl rfl rfl (by omega) (by omega)) rfl rfl ?_
            refine l_q rfl (q_eql rfl rfl rfl) rfl rfl ?_
            refine l_q rfl (q_pick_t rfl rfl rfl) rfl rfl ?_
            refine l_q rfl (q_move rfl rfl) rfl rfl ?_
            refine Pre.setB (t := 111) (c := true) rfl (by rw [e4, e2]; exact decide_eq_true rfl) ?_
            refine l_e rfl ?_
            refine e_call_00 (awake_spec) rfl rfl rfl Try.call8 rfl (fun _ _ => trivial) ?_
            intro _ _
            refine l_q rfl (q_pick_t rfl rfl rfl) rfl rfl ?_
            refine l_q rfl (q_assign rfl rfl) rfl rfl ?_
            refine l_nil ?_
            refine k_then ?_
            refine c_ret ?_
            refine k_then_ret ?_
            refine r_one rfl rfl ?_
            exact fun _ h => ⟨(), rfl, trivial, h.nothing⟩
          · simp only [decide_eq_true_eq, decide_eq_false_iff_not, Bool.not_eq_true', Bool.not_eq_false'] at hpl
            obtain ⟨p, ho⟩ : ∃ p, (swM cs rs (h : Int)).1 = some p := Option.ne_none_iff_exists'.1 (fun e => hpl (sw_none.2 e))
            have hpn := (sw_can ho).2.1
            rw [ho] at htn
            obtain ⟨e1, e2⟩ := sw_val hp hrl ho
            obtain ⟨e3, e4⟩ := sw_val (by omega) (by omega) htn
            simp only [Option.map_none, Option.map_some, pOf, nOf] at e1 e2 e3 e4
            rw [l1] at e4
            have hml := Nat.mod_lt (p + 1) hp
            refine c_false rfl ?_
            refine c_skip ?_
            refine k_then ?_
            refine c_seq ?_
            refine c_region _ rfl ?_
            refine l_q rfl (q_move rfl rfl) rfl rfl ?_
            refine l_q rfl (q_move rfl rfl) rfl rfl ?_
            refine l_q rfl (q_move rfl rfl) rfl rfl ?_
            refine l_q rfl (q_add64 rfl rfl rfl (by omega)) rfl rfl ?_
            refine l_q rfl (q_move rfl rfl) rfl rfl ?_
            refine l_q rfl (q_rem_nn rfl rfl rfl (by omega) (by omega)) rfl rfl ?_
            refine l_q rfl (q_eql rfl rfl rfl) rfl rfl ?_
            refine l_q rfl (q_move rfl rfl) rfl rfl ?_
            refine Pre.setB (t := 121) (c := true) rfl (by rw [e1, e3]; exact decide_eq_true (by rw [← Int.natCast_add, ← Int.natCast_emod])) ?_
            refine l_q rfl (q_move rfl rfl) rfl rfl ?_
            refine l_q rfl (q_move rfl rfl) rfl rfl ?_
            refine l_q rfl (q_move rfl rfl) rfl rfl ?_
            refine l_q rfl (q_add64 rfl rfl rfl (by omega)) rfl rfl ?_
            refine l_q rfl (q_move rfl rfl) rfl rfl ?_
            refine l_q rfl (q_rem_nn rfl rfl rfl (by omega) (by omega)) rfl rfl ?_
            refine l_q rfl (q_eql rfl rfl rfl) rfl rfl ?_
            refine l_q rfl (q_pick_t rfl rfl rfl) rfl rfl ?_
            refine l_q rfl (q_move rfl rfl) rfl rfl ?_
            refine Pre.setB (t := 130) (c := true) rfl (by rw [e4, e2]; exact decide_eq_true (by rw [← Int.natCast_add, ← Int.natCast_emod, Nat.mod_add_mod, Nat.mod_add_mod, Nat.add_right_comm])) ?_
            refine l_e rfl ?_
            refine e_call_00 (awake_spec) rfl rfl rfl Try.call8 rfl (fun _ _ => trivial) ?_
            intro _ _
            refine l_q rfl (q_pick_t rfl rfl rfl) rfl rfl ?_
            refine l_q rfl (q_assign rfl rfl) rfl rfl ?_
            refine l_nil ?_
            refine k_then ?_
            refine c_ret ?_
            refine r_one rfl rfl ?_
            exact fun _ h => ⟨(), rfl, trivial, h.nothing⟩
theorem clockTurns_walk (w : World) (A0 : Option Addr) (c0 : Nat) (z0 : List Bool) (rd0 : Rd w w.heap.size A0 (z0.map .bool)) (l0 : z0.length ≤ c0) (m0 : c0 ≤ maxLen) (A1 : Option Addr) (c1 : Nat) (z1 : List Bool) (rd1 : Rd w w.heap.size A1 (z1.map .bool)) (l1 : z1.length ≤ c1) (m1 : c1 ≤ maxLen) (a2 : Int) (w2 : (Lit.int .i64 a2).wf = true) (a3 : Int) (w3 : (Lit.int .i64 a3).wf = true) :
    Calls Try.prog 6 #[.slice A0 z0.length c0, .slice A1 z1.length c1, .int .i64 a2, .int .i64 a3] w fun e w' => e = .returned (.bool true) ∧ Below w.heap.size w w' := by
  have f0 := flat_one' encB Value.bool (fun _ => rfl) z0
  rw [← f0] at rd0
  have f1 := flat_one' encB Value.bool (fun _ => rfl) z1
  rw [← f1] at rd1
  exact con_walk (turns_spec z0 z1 a2 a3 w2 w3) ⟨rdv_of rd0 l0, rdv_of rd1 l1⟩
end Go.Proofs.Ythjnfbpimcdndaa
