/- CachePlays, walked -/
import Derived.Test.YtpfbagkjhchojaaPl
import Derived.Test.YtpfbagkjhchojaaS9
set_option linter.unusedVariables false
set_option linter.unusedSimpArgs false
namespace Go.Proofs.Ytpfbagkjhchojaa
open Go.Sep Go.RowKit

def kinds_1 : List Sc := [Sc.i .i64, Sc.i .i64, Sc.i .i64, Sc.i .i64]
theorem node_len {M : Mo} {B : Nat} (h : M.Ok B) (b : Int) : (M.node b).1.2.length ≤ 1000 := by
  cases hf : M.frI b 2 with
  | none => rw [node_none hf]; exact Nat.zero_le _
  | some i =>
    rw [node_some hf]
    obtain ⟨hf1, hst⟩ := frI_at hf
    obtain ⟨y, hy, _, _, hya⟩ := find_at hf1
    rw [hya]; exact h.es y (List.mem_of_getElem? hy)
theorem rd_node {w0 w : World} {D : List Nat} {H G : List Ent} {R : RS} {nv : NV} (h : St w0 D H w) (hi : (nv.e = sv0 ∧ nv.l = []) ∨ ∃ f ∈ R.fl, nv = f.nv) (hN : NIn G R.fl) (hs : ∀ e ∈ G, e ∈ H) : RdV w nv.e.v En.enc nv.l := by
  rcases hi with hi | ⟨f, hf, rfl⟩
  · exact rdn (G := G) h (.inl hi) hs
  · exact rdn h (hN f hf) hs
set_option maxRecDepth 100000 in
set_option maxHeartbeats 1000000 in
theorem plays_spec {va : Value} (n : Int) (l : List Sp) (hW : ∀ s ∈ l, i64 s.id) : Con Try.prog 8 [.int .i64 n, va] (fun w => RdV w va encSp l) [] (fun _ : Unit => .bool true) (fun _ => True) (fun _ => []) := by
  intro w hl hH
  by_cases hn : 1 ≤ n ∧ n ≤ 64
  · obtain ⟨k, rfl⟩ := Int.eq_ofNat_of_zero_le (show 0 ≤ n by omega)
    have h1 : 1 ≤ k := by omega
    have h64 : k ≤ 64 := by omega
    refine enter (n := 95) (vs := [.int .i64 (k : Int), va]) (St w [] []) Try.func8 rfl rfl rfl (St.init hH) ?_
    refine c_seq ?_
    refine c_region _ rfl ?_
    refine l_q rfl (q_assign rfl rfl) rfl rfl ?_
    refine l_nil ?_
    refine k_then ?_
    refine c_seq ?_
    refine c_region _ rfl ?_
    refine l_q rfl (q_move rfl rfl) rfl rfl ?_
    refine l_e rfl ?_
    refine e_callH [] (HA := []) (qnew k h1 h64) rfl rfl rfl Try.call9 rfl (fun _ _ => trivial) ?_
    rintro ⟨r76, r76_⟩ ⟨hm77, hg78, hk79⟩
    dsimp only at hm77 hg78 hk79
    refine Pre.world (St _ _ (Q.H r76 r76_)) (fun _ h => h) ?_
    refine l_q rfl (q_move rfl rfl) rfl rfl ?_
    refine l_q rfl (q_extract rfl rfl rfl) rfl rfl ?_
    refine l_q rfl (q_extract rfl rfl rfl) rfl rfl ?_
    refine l_q rfl (q_assign rfl rfl) rfl rfl ?_
    refine l_q rfl (q_assign rfl rfl) rfl rfl ?_
    refine l_nil ?_
    refine k_then ?_
    refine c_seq ?_
    refine c_region _ rfl ?_
    refine l_q rfl (q_move rfl rfl) rfl rfl ?_
    refine l_e rfl ?_
    refine e_callHF [] (Q.H r76 r76_) (HA := []) (rnew_spec k h1 h64) rfl rfl rfl Try.call29 rfl (fun _ _ => trivial) ?_
    rintro ⟨br, R0⟩ ⟨hR0, hNR⟩
    dsimp only at hR0 hNR
    refine Pre.world (St _ _ ((Q.H r76 r76_) ++ RS.H br R0 r76_.M)) (fun _ h => by rw [hm77]; exact h.perm List.perm_append_comm) ?_
    have hb0 : Both r76_ R0 0 := ⟨hk79, by rw [hm77]; exact hR0, hNR _⟩
    refine l_q rfl (q_move rfl rfl) rfl rfl ?_
    refine l_q rfl (q_extract rfl rfl rfl) rfl rfl ?_
    refine l_q rfl (q_extract rfl rfl rfl) rfl rfl ?_
    refine l_q rfl (q_assign rfl rfl) rfl rfl ?_
    refine l_q rfl (q_assign rfl rfl) rfl rfl ?_
    refine l_nil ?_
    refine k_then ?_
    refine c_seq ?_
    refine c_seq ?_
    refine c_region _ rfl ?_
    refine l_q rfl (q_move rfl rfl) rfl rfl ?_
    refine l_q rfl (q_move rfl rfl) rfl rfl ?_
    refine l_q rfl (q_neq rfl rfl rfl) rfl rfl ?_
    refine l_q rfl (q_move rfl rfl) rfl rfl ?_
    refine Pre.setB (t := 28) (c := false) rfl (rfl) ?_
    refine l_q rfl (q_move rfl rfl) rfl rfl ?_
    refine l_q rfl (q_eqp rfl Try.underlying23 rfl rfl) rfl rfl ?_
    refine l_q rfl (q_move rfl rfl) rfl rfl ?_
    refine l_q rfl (q_eqp rfl Try.underlying64 rfl rfl) rfl rfl ?_
    refine l_q rfl (q_neb rfl Try.underlying4 rfl rfl) rfl rfl ?_
    refine l_q rfl (q_pick_f rfl rfl rfl) rfl rfl ?_
    refine l_nil ?_
    refine k_then ?_
    refine Pre.setB (t := 34) (c := false) rfl (rfl) ?_
    refine c_false rfl ?_
    refine c_skip ?_
    refine k_then ?_
    refine c_seq ?_
    refine c_seq ?_
    refine c_region _ rfl ?_
    refine l_q rfl (q_move rfl rfl) rfl rfl ?_
    refine l_q rfl (q_neq rfl rfl rfl) rfl rfl ?_
    refine l_q rfl (q_move rfl rfl) rfl rfl ?_
    refine Pre.setB (t := 37) (c := false) rfl (rfl) ?_
    refine l_q rfl (q_move rfl rfl) rfl rfl ?_
    refine l_q rfl (q_lenV rfl Try.underlying58 rfl (fun _ h => hl.keep h (by simp [dom]))) rfl rfl ?_
    refine l_q rfl (q_gtr rfl rfl rfl) rfl rfl ?_
    refine l_q rfl (q_pick_f rfl rfl rfl) rfl rfl ?_
    refine l_nil ?_
    refine k_then ?_
    refine Pre.caseB 41 rfl (fun h120 => ?_) (fun h120 => ?_)
    · try simp only [decide_eq_true_eq, decide_eq_false_iff_not, Bool.not_eq_true', Bool.not_eq_false'] at h120
      refine c_true rfl ?_
      refine c_seq ?_
      refine c_region _ rfl ?_
      refine l_e rfl ?_
      refine e_call_00 (awake_spec) rfl rfl rfl Try.call15 rfl (fun _ _ => trivial) ?_
      intro _ _
      refine l_q rfl (q_assign rfl rfl) rfl rfl ?_
      refine l_nil ?_
      refine k_then ?_
      refine c_ret ?_
      refine k_then_ret ?_
      refine r_one rfl rfl ?_
      exact fun _ h => ⟨(), rfl, trivial, h.nothing⟩
    · try simp only [decide_eq_true_eq, decide_eq_false_iff_not, Bool.not_eq_true', Bool.not_eq_false'] at h120
      refine c_false rfl ?_
      refine c_skip ?_
      refine k_then ?_
      refine c_seq ?_
      refine c_seq ?_
      refine c_region _ rfl ?_
      refine l_q rfl (q_assign rfl rfl) rfl rfl ?_
      refine l_nil ?_
      refine k_then ?_
      refine c_block ?_
      refine c_loop3 (fun (i : Nat) (q : Q) (R : RS) => [(1, va), (5, .pointer (some ⟨r76, 0, none⟩)), (7, .pointer (some ⟨br, 0, none⟩)), (9, .int .i64 (i : Int))]) (fun (i : Nat) (q : Q) (R : RS) => St w [] (Q.H r76 q ++ RS.H br R q.M)) (fun (i : Nat) (q : Q) (R : RS) => i ≤ l.length ∧ Both q R i) (fun (i : Nat) (q : Q) (R : RS) => l.length - i) (0) (r76_) (R0) ⟨Nat.zero_le _, hb0⟩ (Sub.cons rfl (Sub.cons rfl (Sub.cons rfl (Sub.cons rfl (Sub.nil))))) (fun _ h => h) ?_
      intro i q R hp
      refine c_seq ?_
      refine c_seq ?_
      obtain ⟨hi, hb⟩ := hp
      refine c_region _ rfl ?_
      refine l_q rfl (q_move rfl rfl) rfl rfl ?_
      refine l_q rfl (q_move rfl rfl) rfl rfl ?_
      refine l_q rfl (q_lenV rfl Try.underlying58 rfl (fun _ h => hl.keep h (by simp [dom]))) rfl rfl ?_
      refine l_q rfl (q_lss rfl rfl rfl) rfl rfl ?_
      refine l_nil ?_
      refine k_then ?_
      refine Pre.caseB 46 rfl (fun h1i => ?_) (fun h1i => ?_)
      · try simp only [decide_eq_true_eq, decide_eq_false_iff_not, Bool.not_eq_true', Bool.not_eq_false'] at h1i
        obtain ⟨s, hx⟩ : ∃ s, l[i]? = some s := ⟨_, List.getElem?_eq_getElem (by omega)⟩
        have hsi := hW s (List.mem_of_getElem? hx)
        refine c_true rfl ?_
        refine c_skip ?_
        refine k_then ?_
        refine c_seq ?_
        refine c_block ?_
        refine c_seq ?_
        refine c_region _ rfl ?_
        refine l_q rfl (q_move rfl rfl) rfl rfl ?_
        refine l_q rfl (q_move rfl rfl) rfl rfl ?_
        refine l_q rfl (q_indexV i rfl Try.underlying58 Try.sizeOf60 rfl (fun _ h => hl.keep h (by simp [dom])) rfl rfl (by omega)) rfl rfl ?_
        refine l_q rfl (q_loadVAgg i rfl Try.isAgg60 Try.sizeOf60 rfl rfl (fun _ h => hl.keep h (by simp [dom])) hx) rfl rfl ?_
        refine l_q rfl (q_move rfl rfl) rfl rfl ?_
        refine l_e rfl ?_
        refine e_call_00 (few_spec s i) rfl rfl rfl Try.call27 rfl (fun _ _ => trivial) ?_
        intro _ _
        have hid := few_id (i := i) hsi
        obtain ⟨x, hxx⟩ : ∃ x, x = fewS s i := ⟨_, rfl⟩
        rw [← hxx] at hid ⊢
        refine l_e rfl ?_
        refine e_alloc rfl rfl rfl Try.zeroValue60 ?_
        intro bst
        refine cells_eq (show _ = (⟨0, 0, 0, 0⟩ : Sp).c from rfl) ?_
        refine l_e rfl ?_
        refine e_storeAgg rfl rfl Try.sizeOf60 rfl rfl rfl (Sp.one _) (by show 0 + 4 ≤ 4; decide) ?_
        refine cells_eq (show Sep.splice _ 0 (x).c = (x).c from Sep.splice_all rfl) ?_
        refine l_nil ?_
        refine k_then ?_
        refine c_seq ?_
        refine c_seq ?_
        refine c_region _ rfl ?_
        refine l_q rfl (q_move rfl rfl) rfl rfl ?_
        refine l_q rfl (q_move rfl rfl) rfl rfl ?_
        refine l_q rfl (q_loadCAgg ((x).c) rfl Try.isAgg60 Try.sizeOf60 rfl (fun _ h => h.at 0 rfl) (rfl) (rfl)) rfl rfl ?_
        refine l_e rfl ?_
        refine e_callH [_] (does_spec hb (by omega) x hid) rfl rfl rfl Try.call30 rfl (fun _ _ => trivial) ?_
        rintro ⟨q2, R2⟩ hb2
        refine Pre.world (St _ _ (_ :: (Q.H r76 q2 ++ RS.H br R2 q2.M))) (fun _ h => h) ?_
        dsimp only at hb2
        refine l_q rfl (q_not rfl rfl) rfl rfl ?_
        refine l_q rfl (q_move rfl rfl) rfl rfl ?_
        refine Pre.setB (t := 60) (c := false) rfl (rfl) ?_
        refine l_q rfl (q_move rfl rfl) rfl rfl ?_
        refine l_q rfl (q_move rfl rfl) rfl rfl ?_
        refine l_e rfl ?_
        refine e_callH [_] (frames_law hb2) rfl rfl rfl Try.call31 rfl (fun _ _ => trivial) ?_
        rintro q3 ⟨hb3, hM3⟩
        refine Pre.world (St _ _ (_ :: (Q.H r76 q3 ++ RS.H br R2 q3.M))) (fun _ h => h) ?_
        refine l_q rfl (q_not rfl rfl) rfl rfl ?_
        refine l_q rfl (q_pick_f rfl rfl rfl) rfl rfl ?_
        refine l_nil ?_
        refine k_then ?_
        refine Pre.setB (t := 65) (c := false) rfl (rfl) ?_
        refine c_false rfl ?_
        refine c_skip ?_
        refine k_then ?_
        refine c_seq ?_
        refine c_region _ rfl ?_
        refine l_q rfl (q_move rfl rfl) rfl rfl ?_
        refine l_q rfl (q_fieldAddr rfl Try.underlying60 rfl Try.sizeOf3 rfl rfl) rfl rfl ?_
        refine l_q rfl (q_loadC rfl Try.isAgg3 rfl (fun _ h => h.at 0 rfl) rfl) rfl rfl ?_
        refine l_e rfl ?_
        refine e_callHF [_] (RS.H br R2 q3.M) (qnode hb3.ok x.id) rfl rfl rfl Try.call32 rfl (fun _ _ => trivial) ?_
        rintro s80 _
        refine Pre.world (St _ _ (_ :: _ :: (Q.H r76 q3 ++ (RS.H br R2 q3.M)))) (fun _ h => h) ?_
        have hn81 : q3.M.node x.id = (((q3.M.node x.id).1.1, (q3.M.node x.id).1.2), (q3.M.node x.id).2) := by rw [(rfl : q3.M = q3.M)]; try rfl
        refine pull1 ?_
        refine row_eq (show _ = (q3.M.node x.id).1.2 from by rw [hn81]) ?_
        refine Pre.setV (t := 70) (c := .tuple #[.agg (⟨(q3.M.node x.id).1.1, s80, (q3.M.node x.id).1.2⟩ : NV).c.toArray, .bool (q3.M.node x.id).2]) rfl (by rw [hn81]) ?_
        refine l_q rfl (q_move rfl rfl) rfl rfl ?_
        refine l_q rfl (q_extract rfl rfl rfl) rfl rfl ?_
        refine l_q rfl (q_extract rfl rfl rfl) rfl rfl ?_
        refine l_e rfl ?_
        refine e_alloc rfl rfl rfl Try.zeroValue37 ?_
        intro b1
        refine cells_eq (show _ = nv0.c from rfl) ?_
        refine l_e rfl ?_
        refine e_storeAgg rfl rfl Try.sizeOf37 rfl rfl rfl (NV.one _) (by show 0 + 5 ≤ 5; decide) ?_
        refine cells_eq (show Sep.splice _ 0 ((⟨(q3.M.node x.id).1.1, s80, (q3.M.node x.id).1.2⟩ : NV)).c = ((⟨(q3.M.node x.id).1.1, s80, (q3.M.node x.id).1.2⟩ : NV)).c from Sep.splice_all rfl) ?_
        refine l_q rfl (q_assign rfl rfl) rfl rfl ?_
        refine l_nil ?_
        refine k_then ?_
        refine c_seq ?_
        refine c_region _ rfl ?_
        refine l_q rfl (q_move rfl rfl) rfl rfl ?_
        refine l_q rfl (q_fieldAddr rfl Try.underlying60 rfl Try.sizeOf3 rfl rfl) rfl rfl ?_
        refine l_q rfl (q_loadC rfl Try.isAgg3 rfl (fun _ h => h.at 2 rfl) rfl) rfl rfl ?_
        refine l_e rfl ?_
        refine e_call_00 (rnode_spec hb3.rel hb3.ok.ok x.id) rfl rfl rfl Try.call33 rfl (fun _ h => RC.ofm (R := R2) (M := q3.M) h (fun e he => List.mem_cons_of_mem _ (List.mem_cons_of_mem _ (List.mem_cons_of_mem _ (List.mem_append_right _ he))))) ?_
        intro nv2 hnv2
        obtain ⟨⟨hn1, hn2⟩, hn3⟩ := hnv2
        refine l_q rfl (q_move rfl rfl) rfl rfl ?_
        refine l_q rfl (q_extract rfl rfl rfl) rfl rfl ?_
        refine l_q rfl (q_extract rfl rfl rfl) rfl rfl ?_
        refine l_e rfl ?_
        refine e_alloc rfl rfl rfl Try.zeroValue37 ?_
        intro b2
        refine cells_eq (show _ = nv0.c from rfl) ?_
        refine l_e rfl ?_
        refine e_storeAgg rfl rfl Try.sizeOf37 rfl rfl rfl (NV.one _) (by show 0 + 5 ≤ 5; decide) ?_
        refine cells_eq (show Sep.splice _ 0 (nv2).c = (nv2).c from Sep.splice_all rfl) ?_
        refine l_q rfl (q_assign rfl rfl) rfl rfl ?_
        refine l_nil ?_
        refine k_then ?_
        refine c_seq ?_
        refine c_region _ rfl ?_
        refine l_q rfl (q_loadCAgg ((⟨(q3.M.node x.id).1.1, s80, (q3.M.node x.id).1.2⟩ : NV).c) rfl Try.isAgg37 Try.sizeOf37 rfl (fun _ h => h.at 1 rfl) (rfl) (rfl)) rfl rfl ?_
        refine l_q rfl (q_loadCAgg (nv2.c) rfl Try.isAgg37 Try.sizeOf37 rfl (fun _ h => h.at 0 rfl) (rfl) (rfl)) rfl rfl ?_
        have hnl := node_len hb3.ok.ok x.id
        refine l_e rfl ?_
        refine e_call_00 (samend_spec (⟨(q3.M.node x.id).1.1, s80, (q3.M.node x.id).1.2⟩ : NV) nv2 (by show (q3.M.node x.id).1.2.length ≤ 65536; omega)) rfl rfl rfl Try.call34 rfl (fun _ h => ⟨h.rd 2 rfl, rd_node h hn3 hb3.nin (fun _ he => List.mem_cons_of_mem _ (List.mem_cons_of_mem _ (List.mem_cons_of_mem _ (List.mem_cons_of_mem _ (List.mem_append_left _ (List.mem_append_right _ he))))))⟩) ?_
        intro _ _
        refine l_q rfl (q_not rfl rfl) rfl rfl ?_
        refine l_q rfl (q_move rfl rfl) rfl rfl ?_
        refine Pre.setB (t := 84) (c := false) rfl (by rw [decide_eq_true ⟨hn1.symm, hn2.symm⟩]; rfl) ?_
        refine l_q rfl (q_move rfl rfl) rfl rfl ?_
        refine l_q rfl (q_move rfl rfl) rfl rfl ?_
        refine l_q rfl (q_neb rfl Try.underlying4 rfl rfl) rfl rfl ?_
        refine l_q rfl (q_pick_f rfl rfl rfl) rfl rfl ?_
        refine l_nil ?_
        refine k_then ?_
        refine Pre.setB (t := 88) (c := false) rfl (by simp) ?_
        refine c_false rfl ?_
        refine c_skip ?_
        refine k_block ?_
        refine k_then ?_
        refine c_region _ rfl ?_
        refine l_q rfl (q_move rfl rfl) rfl rfl ?_
        refine l_q rfl (q_inc rfl rfl rfl (by omega)) rfl rfl ?_
        refine l_q rfl (q_assign rfl rfl) rfl rfl ?_
        refine l_nil ?_
        refine drop0 ?_
        refine drop0 ?_
        refine drop0 ?_
        refine drop0 ?_
        exact k_round ((i + 1, q3, R2)) (by dsimp only; omega) ⟨by dsimp only; omega, hb3⟩ (Sub.cons rfl (Sub.cons rfl (Sub.cons rfl (Sub.cons rfl (Sub.nil))))) (fun _ h => h)
      · try simp only [decide_eq_true_eq, decide_eq_false_iff_not, Bool.not_eq_true', Bool.not_eq_false'] at h1i
        refine c_false rfl ?_
        refine c_exit ?_
        refine k_then_exit ?_
        refine k_then_exit ?_
        refine k_block_exit ?_
        refine k_then ?_
        refine c_seq ?_
        refine c_region _ rfl ?_
        refine l_q rfl (q_move rfl rfl) rfl rfl ?_
        refine l_q rfl (q_move rfl rfl) rfl rfl ?_
        refine l_e rfl ?_
        refine e_callH [] (frames_law hb) rfl rfl rfl Try.call31 rfl (fun _ _ => trivial) ?_
        rintro q3 ⟨hb3, hM3⟩
        refine Pre.world (St _ _ ((Q.H r76 q3 ++ RS.H br R q3.M))) (fun _ h => h) ?_
        refine l_q rfl (q_move rfl rfl) rfl rfl ?_
        refine Pre.setB (t := 92) (c := true) rfl (rfl) ?_
        refine l_e rfl ?_
        refine e_call_00 (awake_spec) rfl rfl rfl Try.call15 rfl (fun _ _ => trivial) ?_
        intro _ _
        refine l_q rfl (q_pick_t rfl rfl rfl) rfl rfl ?_
        refine l_q rfl (q_assign rfl rfl) rfl rfl ?_
        refine l_nil ?_
        refine k_then ?_
        refine c_ret ?_
        refine r_one rfl rfl ?_
        exact fun _ h => ⟨(), rfl, trivial, h.nothing⟩
  · refine enter (n := 95) (vs := [.int .i64 n, va]) (St w [] []) Try.func8 rfl rfl rfl (St.init hH) ?_
    refine c_seq ?_
    refine c_region _ rfl ?_
    refine l_q rfl (q_assign rfl rfl) rfl rfl ?_
    refine l_nil ?_
    refine k_then ?_
    refine c_seq ?_
    refine c_region _ rfl ?_
    refine l_q rfl (q_move rfl rfl) rfl rfl ?_
    refine l_e rfl ?_
    refine e_call_00 (new_bad n (by omega)) rfl rfl rfl Try.call9 rfl (fun _ _ => trivial) ?_
    intro _ _
    refine l_q rfl (q_move rfl rfl) rfl rfl ?_
    refine l_q rfl (q_extract rfl rfl rfl) rfl rfl ?_
    refine l_q rfl (q_extract rfl rfl rfl) rfl rfl ?_
    refine l_q rfl (q_assign rfl rfl) rfl rfl ?_
    refine l_q rfl (q_assign rfl rfl) rfl rfl ?_
    refine l_nil ?_
    refine k_then ?_
    refine c_seq ?_
    refine c_region _ rfl ?_
    refine l_q rfl (q_move rfl rfl) rfl rfl ?_
    refine l_e rfl ?_
    refine e_call_00 (rnew_bad n (by omega)) rfl rfl rfl Try.call29 rfl (fun _ _ => trivial) ?_
    intro _ _
    refine l_q rfl (q_move rfl rfl) rfl rfl ?_
    refine l_q rfl (q_extract rfl rfl rfl) rfl rfl ?_
    refine l_q rfl (q_extract rfl rfl rfl) rfl rfl ?_
    refine l_q rfl (q_assign rfl rfl) rfl rfl ?_
    refine l_q rfl (q_assign rfl rfl) rfl rfl ?_
    refine l_nil ?_
    refine k_then ?_
    refine c_seq ?_
    refine c_seq ?_
    refine c_region _ rfl ?_
    refine l_q rfl (q_move rfl rfl) rfl rfl ?_
    refine l_q rfl (q_move rfl rfl) rfl rfl ?_
    refine l_q rfl (q_neq rfl rfl rfl) rfl rfl ?_
    refine l_q rfl (q_move rfl rfl) rfl rfl ?_
    refine Pre.setB (t := 28) (c := false) rfl (rfl) ?_
    refine l_q rfl (q_move rfl rfl) rfl rfl ?_
    refine l_q rfl (q_eqp rfl Try.underlying23 rfl rfl) rfl rfl ?_
    refine l_q rfl (q_move rfl rfl) rfl rfl ?_
    refine l_q rfl (q_eqp rfl Try.underlying64 rfl rfl) rfl rfl ?_
    refine l_q rfl (q_neb rfl Try.underlying4 rfl rfl) rfl rfl ?_
    refine l_q rfl (q_pick_f rfl rfl rfl) rfl rfl ?_
    refine l_nil ?_
    refine k_then ?_
    refine Pre.setB (t := 34) (c := false) rfl (rfl) ?_
    refine c_false rfl ?_
    refine c_skip ?_
    refine k_then ?_
    refine c_seq ?_
    refine c_seq ?_
    refine c_region _ rfl ?_
    refine l_q rfl (q_move rfl rfl) rfl rfl ?_
    refine l_q rfl (q_neq rfl rfl rfl) rfl rfl ?_
    refine l_q rfl (q_move rfl rfl) rfl rfl ?_
    refine Pre.setB (t := 37) (c := true) rfl (rfl) ?_
    refine l_not rfl rfl rfl ?_
    refine l_not rfl rfl rfl ?_
    refine l_not rfl rfl rfl ?_
    refine l_q rfl (q_pick_t rfl rfl rfl) rfl rfl ?_
    refine l_nil ?_
    refine k_then ?_
    refine c_true rfl ?_
    refine c_seq ?_
    refine c_region _ rfl ?_
    refine l_e rfl ?_
    refine e_call_00 (awake_spec) rfl rfl rfl Try.call15 rfl (fun _ _ => trivial) ?_
    intro _ _
    refine l_q rfl (q_assign rfl rfl) rfl rfl ?_
    refine l_nil ?_
    refine k_then ?_
    refine c_ret ?_
    refine k_then_ret ?_
    refine r_one rfl rfl ?_
    exact fun _ h => ⟨(), rfl, trivial, h.nothing⟩
theorem cachePlays_walk (w : World) (a0 : Int) (w0 : (Lit.int .i64 a0).wf = true) (A1 : Option Addr) (n1 c1 : Nat) (x1 : List Value) (e1 : x1.length = n1 * kinds_1.length) (rd1 : Rd w w.heap.size A1 x1) (l1 : n1 ≤ c1) (m1 : c1 ≤ maxLen) (kk1 : ∀ i, i < n1 → Kinds kinds_1 ((x1.drop (i * kinds_1.length)).take kinds_1.length)) :
    Calls Try.prog 8 #[.int .i64 a0, .slice A1 n1 c1] w fun e w' => e = .returned (.bool true) ∧ Below w.heap.size w w' := by
  obtain ⟨l, rfl, rfl, hW⟩ := flat_of encSp (ks := kinds_1) rfl sp_one n1 x1 e1 kk1
  exact con_walk (plays_spec a0 l hW) (rdv_of rd1 l1)
end Go.Proofs.Ytpfbagkjhchojaa
