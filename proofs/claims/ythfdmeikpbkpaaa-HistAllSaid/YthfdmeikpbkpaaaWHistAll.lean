/- HistAll, walked -/
import Derived.Test.YthfdmeikpbkpaaaT
set_option linter.unusedVariables false
set_option linter.unusedSimpArgs false
namespace Go.Proofs.Ythfdmeikpbkpaaa
open Go.Sep Go.RowKit

theorem rr_ops {b : OpsR} {m : Nat} {w : World} (h : RdV w b.vo encSv (b.vs m)) (h0 : RdV w b.q0.v Op.enc b.o0) (h1 : RdV w b.q1.v Op.enc b.o1) (h2 : RdV w b.q2.v Op.enc b.o2) (h3 : RdV w b.q3.v Op.enc b.o3) : RR w b.vo (b.vs m) (b.ops m) := by
  refine ⟨h, by unfold OpsR.vs OpsR.ops; rw [List.length_take, List.length_take]; rfl, fun i s o g1 g2 => ?_⟩
  unfold OpsR.vs at g1
  unfold OpsR.ops at g2
  rw [List.getElem?_take] at g1 g2
  split at g1
  · rename_i hi
    rw [if_pos hi] at g2
    match i with
    | 0 => cases g1; cases g2; exact h0
    | 1 => cases g1; cases g2; exact h1
    | 2 => cases g1; cases g2; exact h2
    | 3 => cases g1; cases g2; exact h3
    | i + 4 => simp at g1
  · cases g1
theorem ops_len (b : OpsR) (m : Nat) : (b.ops m).length ≤ 65536 := by unfold OpsR.ops; have := List.length_take_le m [b.o0, b.o1, b.o2, b.o3]; rw [List.length_take]; show min m 4 ≤ _; omega
theorem ops_each {b : OpsR} (h : b.o0.length ≤ 96 ∧ b.o1.length ≤ 96 ∧ b.o2.length ≤ 96 ∧ b.o3.length ≤ 96) (m : Nat) : ∀ o ∈ b.ops m, o.length ≤ 65536 := fun o ho => by
  have := List.mem_of_mem_take ho
  simp only [List.mem_cons, List.not_mem_nil, or_false] at this
  rcases this with rfl | rfl | rfl | rfl <;> omega
set_option maxRecDepth 100000 in
set_option maxHeartbeats 1000000 in
theorem all_spec {v1 v2 : Value} (n : Int) (l1 l2 : List Int) : Con Try.prog 3 [.int .i64 n, v1, v2] (fun w => RdV w v1 (encI .i64) l1 ∧ RdV w v2 (encI .i64) l2) [] (fun _ : Unit => .bool true) (fun _ => True) (fun _ => []) := by
  intro w hE hH
  obtain ⟨hl1, hl2⟩ := hE
  refine enter (n := 54) (vs := [.int .i64 n, v1, v2]) (St w [] []) Try.func3 rfl rfl rfl (St.init hH) ?_
  refine c_seq ?_
  refine c_region _ rfl ?_
  refine l_q rfl (q_assign rfl rfl) rfl rfl ?_
  refine l_nil ?_
  refine k_then ?_
  refine c_seq ?_
  refine c_region _ rfl ?_
  refine l_q rfl (q_move rfl rfl) rfl rfl ?_
  refine l_q rfl (q_move rfl rfl) rfl rfl ?_
  refine l_e rfl ?_
  refine e_call_00 (place_spec n 4 (by decide) (by decide)) rfl rfl rfl Try.call9 rfl (fun _ _ => trivial) ?_
  intro _ _
  refine l_q rfl (q_add64 rfl rfl rfl (by omega)) rfl rfl ?_
  obtain ⟨m, hm, h1m, hm4⟩ : ∃ m : Nat, 1 + n % 4 = (m : Int) ∧ 1 ≤ m ∧ m ≤ 4 := ⟨(1 + n % 4).toNat, by omega, by omega, by omega⟩
  refine Pre.setV (t := 14) (c := .int .i64 (m : Int)) rfl (by rw [hm]) ?_
  refine l_e rfl ?_
  refine e_call_05 (ops_ex l1 m h1m hm4) rfl rfl rfl Try.call8 rfl (fun _ h => hl1.keep h (by simp [dom])) ?_
  intro b hb
  refine l_q rfl (q_assign rfl rfl) rfl rfl ?_
  refine l_nil ?_
  refine k_then ?_
  refine c_seq ?_
  refine c_region _ rfl ?_
  refine l_q rfl (q_move rfl rfl) rfl rfl ?_
  refine l_q rfl (q_move rfl rfl) rfl rfl ?_
  have hO := ops_each hb m
  have hol := ops_len b m
  refine l_e rfl ?_
  refine e_call_01 (told_ex l2 (b.vs m) (b.ops m) hol hO) rfl rfl rfl Try.call10 rfl (fun _ h => ⟨hl2.keep h (by simp [dom]), (rr_ops (h.rd 0 rfl) (h.rd 1 rfl) (h.rd 2 rfl) (h.rd 3 rfl) (h.rd 4 rfl))⟩) ?_
  intro e he
  refine l_q rfl (q_assign rfl rfl) rfl rfl ?_
  refine l_nil ?_
  refine k_then ?_
  refine c_seq ?_
  refine c_region _ rfl ?_
  refine l_q rfl (q_move rfl rfl) rfl rfl ?_
  refine l_q rfl (q_move rfl rfl) rfl rfl ?_
  have hn : e.2.length ≤ 65536 := by omega
  obtain ⟨R, hR⟩ : ∃ R, R = (if (chk (b.ops m) e.2).isSome = true then callsOf (b.ops m) e.2 e.2.length else []) := ⟨_, rfl⟩
  have hRl : R.length ≤ 80 := by
    rw [hR]; split
    · exact Nat.le_trans (calls_len _ _ _) he
    · exact Nat.zero_le _
  refine l_e rfl ?_
  refine e_call_01 (calls_spec e.2 (b.vs m) (b.ops m) hn hol hO) rfl rfl rfl Try.call11 rfl (fun _ h => ⟨h.rd 0 rfl, (rr_ops (h.rd 1 rfl) (h.rd 2 rfl) (h.rd 3 rfl) (h.rd 4 rfl) (h.rd 5 rfl))⟩) ?_
  intro va _
  rw [← hR]
  refine l_q rfl (q_move rfl rfl) rfl rfl ?_
  refine l_q rfl (q_move rfl rfl) rfl rfl ?_
  refine l_e rfl ?_
  refine e_call_01 (rcalls_spec e.2 (b.vs m) (b.ops m) hn hol hO) rfl rfl rfl Try.call12 rfl (fun _ h => ⟨h.rd 1 rfl, (rr_ops (h.rd 2 rfl) (h.rd 3 rfl) (h.rd 4 rfl) (h.rd 5 rfl) (h.rd 6 rfl))⟩) ?_
  intro vb _
  rw [← hR]
  refine l_q rfl (q_assign rfl rfl) rfl rfl ?_
  refine l_q rfl (q_assign rfl rfl) rfl rfl ?_
  refine l_nil ?_
  refine k_then ?_
  refine c_seq ?_
  refine c_region _ rfl ?_
  refine l_q rfl (q_move rfl rfl) rfl rfl ?_
  refine l_q rfl (q_move rfl rfl) rfl rfl ?_
  refine l_e rfl ?_
  refine e_call_00 (chk_spec e.2 (b.vs m) (b.ops m) hn hol hO) rfl rfl rfl Try.call13 rfl (fun _ h => ⟨h.rd 2 rfl, (rr_ops (h.rd 3 rfl) (h.rd 4 rfl) (h.rd 5 rfl) (h.rd 6 rfl) (h.rd 7 rfl))⟩) ?_
  intro _ _
  refine l_q rfl (q_move rfl rfl) rfl rfl ?_
  refine l_q rfl (q_move rfl rfl) rfl rfl ?_
  refine l_e rfl ?_
  refine e_call_00 (rchk_spec e.2 (b.vs m) (b.ops m) hn hol hO) rfl rfl rfl Try.call14 rfl (fun _ h => ⟨h.rd 2 rfl, (rr_ops (h.rd 3 rfl) (h.rd 4 rfl) (h.rd 5 rfl) (h.rd 6 rfl) (h.rd 7 rfl))⟩) ?_
  intro _ _
  refine l_q rfl (q_eqb rfl Try.underlying4 rfl rfl) rfl rfl ?_
  refine l_q rfl (q_move rfl rfl) rfl rfl ?_
  refine Pre.setB (t := 32) (c := true) rfl (by first | rfl | (simp; done)) ?_
  refine l_q rfl (q_move rfl rfl) rfl rfl ?_
  refine l_q rfl (q_move rfl rfl) rfl rfl ?_
  refine l_e rfl ?_
  refine e_call_00 (lsame_spec R R (by omega)) rfl rfl rfl Try.call15 rfl (fun _ h => ⟨h.rd 1 rfl, h.rd 0 rfl⟩) ?_
  intro _ _
  refine l_q rfl (q_pick_t rfl rfl rfl) rfl rfl ?_
  refine l_q rfl (q_move rfl rfl) rfl rfl ?_
  refine Pre.setB (t := 37) (c := true) rfl (by first | rfl | (simp; done)) ?_
  refine l_q rfl (q_move rfl rfl) rfl rfl ?_
  refine l_e rfl ?_
  refine e_call_00 (wid_spec R (by omega)) rfl rfl rfl Try.call16 rfl (fun _ h => h.rd 0 rfl) ?_
  intro _ _
  refine l_q rfl (q_move rfl rfl) rfl rfl ?_
  refine l_e rfl ?_
  refine e_call_00 (rwid_spec R (by omega)) rfl rfl rfl Try.call17 rfl (fun _ h => h.rd 0 rfl) ?_
  intro _ _
  refine l_q rfl (q_eql rfl rfl rfl) rfl rfl ?_
  refine l_q rfl (q_pick_t rfl rfl rfl) rfl rfl ?_
  refine l_q rfl (q_move rfl rfl) rfl rfl ?_
  refine Pre.setB (t := 44) (c := true) rfl (by first | rfl | (simp; done)) ?_
  refine l_q rfl (q_move rfl rfl) rfl rfl ?_
  refine l_e rfl ?_
  refine e_call_00 (pen_spec R (by omega)) rfl rfl rfl Try.call18 rfl (fun _ h => h.rd 0 rfl) ?_
  intro _ _
  refine l_q rfl (q_move rfl rfl) rfl rfl ?_
  refine l_e rfl ?_
  refine e_call_00 (rpen_spec R (by omega)) rfl rfl rfl Try.call19 rfl (fun _ h => h.rd 0 rfl) ?_
  intro _ _
  refine l_q rfl (q_eql rfl rfl rfl) rfl rfl ?_
  refine l_q rfl (q_pick_t rfl rfl rfl) rfl rfl ?_
  refine l_q rfl (q_move rfl rfl) rfl rfl ?_
  refine Pre.setB (t := 51) (c := true) rfl (by first | rfl | (simp; done)) ?_
  refine l_e rfl ?_
  refine e_call_00 (awake_spec) rfl rfl rfl Try.call20 rfl (fun _ _ => trivial) ?_
  intro _ _
  refine l_q rfl (q_pick_t rfl rfl rfl) rfl rfl ?_
  refine l_q rfl (q_assign rfl rfl) rfl rfl ?_
  refine l_nil ?_
  refine k_then ?_
  refine c_ret ?_
  refine r_one rfl rfl ?_
  exact fun _ h => ⟨(), rfl, trivial, h.nothing⟩
theorem histAll_walk (w : World) (a0 : Int) (w0 : (Lit.int .i64 a0).wf = true) (A1 : Option Addr) (c1 : Nat) (z1 : List Int) (rd1 : Rd w w.heap.size A1 (z1.map (.int .i64))) (l1 : z1.length ≤ c1) (m1 : c1 ≤ maxLen) (w1 : ∀ z ∈ z1, (Lit.int .i64 z).wf = true) (A2 : Option Addr) (c2 : Nat) (z2 : List Int) (rd2 : Rd w w.heap.size A2 (z2.map (.int .i64))) (l2 : z2.length ≤ c2) (m2 : c2 ≤ maxLen) (w2 : ∀ z ∈ z2, (Lit.int .i64 z).wf = true) :
    Calls Try.prog 3 #[.int .i64 a0, .slice A1 z1.length c1, .slice A2 z2.length c2] w fun e w' => e = .returned (.bool true) ∧ Below w.heap.size w w' := by
  have f1 := flat_one' (encI .i64) (Value.int .i64) (fun _ => rfl) z1
  have f2 := flat_one' (encI .i64) (Value.int .i64) (fun _ => rfl) z2
  rw [← f1] at rd1
  rw [← f2] at rd2
  exact con_walk (all_spec a0 z1 z2) ⟨rdv_of rd1 l1, rdv_of rd2 l2⟩
end Go.Proofs.Ythfdmeikpbkpaaa
