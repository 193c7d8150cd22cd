/- histories: awake -/
import Derived.Test.YthfdmeikpbkpaaaO
set_option linter.unusedVariables false
set_option linter.unusedSimpArgs false
namespace Go.Proofs.Ythfdmeikpbkpaaa
open Go.Sep Go.RowKit

def oa : Op := ⟨1, ⟨#[97]⟩, .empty, 0, by decide, by decide, sz_ok (by decide), sz_ok (by decide)⟩
def ob : Op := ⟨4, ⟨#[97]⟩, .empty, 0, by decide, by decide, sz_ok (by decide), sz_ok (by decide)⟩
def on' : Op := ⟨0, ⟨#[110, 105, 110, 101, 98, 121, 116, 101, 115]⟩, .empty, 0, by decide, by decide, sz_ok (by decide), sz_ok (by decide)⟩
def e0 : Ev := ⟨0, 0, false, an0, by decide, by decide⟩
def e1 : Ev := ⟨1, 0, false, an0, by decide, by decide⟩
def eb : Ev := ⟨0, 1, false, an0, by decide, by decide⟩
def aOps : List (List Op) := [[oa], [ob]]
def ca : Ca := mkC e0 oa 0 (by decide)
def cb : Ca := mkC e1 ob 1 (by decide)
theorem a_chk : (chk aOps [e0, e1]).isSome = true := by decide +kernel
theorem a_bad : (chk aOps [eb]).isSome = false := by decide +kernel
theorem a_calls : (if (chk aOps [e0, e1]).isSome = true then callsOf aOps [e0, e1] [e0, e1].length else []) = [ca, cb] := by rw [if_pos a_chk]; decide +kernel
theorem a_wid : wid [ca, cb] = 2 := by decide +kernel
theorem a_pen : pen [ca, cb] = 2 := by decide +kernel
theorem a_bef : bef ca cb = false := by decide +kernel
theorem a_lrg : lrg on' = true := by decide +kernel
theorem a_sz : ∀ o ∈ aOps, o.length ≤ 65536 := by intro o h; simp only [aOps, List.mem_cons, List.not_mem_nil, or_false] at h; rcases h with rfl | rfl <;> decide
theorem a_rr {w : World} {b0 b1 b : Nat} (h0 : (cellsE b0 37 oa.c).at w) (h1 : (cellsE b1 37 ob.c).at w) (h : (cellsE b 38 [.slice (some ⟨b0, 0, none⟩) 1 1, .slice (some ⟨b1, 0, none⟩) 1 1]).at w) : RR w (.slice (some ⟨b, 0, none⟩) 2 2) [⟨some ⟨b0, 0, none⟩, 1, 1⟩, ⟨some ⟨b1, 0, none⟩, 1, 1⟩] aOps := by
  refine ⟨lit_rd h encSv _ rfl rfl, rfl, fun i s o h2 h3 => ?_⟩
  match i with
  | 0 => cases h2; cases h3; exact lit_rd h0 Op.enc [oa] rfl rfl
  | 1 => cases h2; cases h3; exact lit_rd h1 Op.enc [ob] rfl rfl
  | i + 2 => simp at h2
set_option maxRecDepth 100000 in
set_option maxHeartbeats 1000000 in
theorem awake_spec : Con Try.prog 20 [] (fun _ => True) [] (fun _ : Unit => .bool true) (fun _ => True) (fun _ => []) := by
  intro w hE hH
  have h2l : [ca, cb].length = 2 := rfl
  refine enter (n := 70) (vs := []) (St w [] []) Try.func20 rfl rfl rfl (St.init hH) ?_
  refine c_seq ?_
  refine c_region _ rfl ?_
  refine l_q rfl (q_assign rfl rfl) rfl rfl ?_
  refine l_nil ?_
  refine k_then ?_
  refine c_seq ?_
  refine c_region _ rfl ?_
  refine l_q rfl (q_build (oa.c) rfl rfl (fun w => by kernel_rfl)) rfl rfl ?_
  refine l_e rfl ?_
  refine e_buildSliceV (sz := 4) [.tmp 5] rfl rfl rfl rfl rfl Try.underlying38 Try.sizeOf37 rfl Try.zeroValue37 rfl ?_
  intro b0
  refine cells_eq (show _ = oa.c from by simp [Value.cells, cellsOf]) ?_
  refine l_q rfl (q_build (ob.c) rfl rfl (fun w => by kernel_rfl)) rfl rfl ?_
  refine l_e rfl ?_
  refine e_buildSliceV (sz := 4) [.tmp 7] rfl rfl rfl rfl rfl Try.underlying38 Try.sizeOf37 rfl Try.zeroValue37 rfl ?_
  intro b1
  refine cells_eq (show _ = ob.c from by simp [Value.cells, cellsOf]) ?_
  refine l_e rfl ?_
  refine e_buildSliceV (sz := 1) [.tmp 6, .tmp 8] rfl rfl rfl rfl rfl Try.underlying23 Try.sizeOf38 rfl Try.zeroValue38 rfl ?_
  intro bo
  refine cells_eq (show _ = [.slice (some ⟨b0, 0, none⟩) 1 1, .slice (some ⟨b1, 0, none⟩) 1 1] from rfl) ?_
  refine l_q rfl (q_assign rfl rfl) rfl rfl ?_
  refine l_nil ?_
  refine k_then ?_
  refine c_seq ?_
  refine c_region _ rfl ?_
  refine l_q rfl (q_build (e0.c) rfl rfl (fun w => by kernel_rfl)) rfl rfl ?_
  refine l_q rfl (q_build (e1.c) rfl rfl (fun w => by kernel_rfl)) rfl rfl ?_
  refine l_e rfl ?_
  refine e_buildSliceV (sz := 22) [.tmp 10, .tmp 11] rfl rfl rfl rfl rfl Try.underlying26 Try.sizeOf52 rfl Try.zeroValue52 (by first | rfl | simp [Value.cells, Ev.c_len] | (simp [Value.cells]; exact ⟨Ev.c_len _, Ev.c_len _⟩)) ?_
  intro be
  refine cells_eq (show _ = Ev.enc.flat [e0, e1] from by first | rfl | (simp [Value.cells, cellsOf, Enc.flat, Ev.enc])) ?_
  refine l_q rfl (q_assign rfl rfl) rfl rfl ?_
  refine l_nil ?_
  refine k_then ?_
  refine c_seq ?_
  refine c_region _ rfl ?_
  refine l_q rfl (q_move rfl rfl) rfl rfl ?_
  refine l_q rfl (q_move rfl rfl) rfl rfl ?_
  refine l_e rfl ?_
  refine e_call_01 (calls_spec [e0, e1] [⟨some ⟨b0, 0, none⟩, 1, 1⟩, ⟨some ⟨b1, 0, none⟩, 1, 1⟩] aOps (by decide) (by decide) a_sz) rfl rfl rfl Try.call11 rfl (fun _ h => ⟨lit_rd (h.at 0 rfl) Ev.enc [e0, e1] rfl rfl, (a_rr (h.at 3 rfl) (h.at 2 rfl) (h.at 1 rfl))⟩) ?_
  intro v _
  rw [a_calls]
  refine l_q rfl (q_assign rfl rfl) rfl rfl ?_
  refine l_nil ?_
  refine k_then ?_
  refine c_seq ?_
  refine c_region _ rfl ?_
  refine l_q rfl (q_build (eb.c) rfl rfl (fun w => by kernel_rfl)) rfl rfl ?_
  refine l_e rfl ?_
  refine e_buildSliceV (sz := 22) [.tmp 16] rfl rfl rfl rfl rfl Try.underlying26 Try.sizeOf52 rfl Try.zeroValue52 (by first | rfl | simp [Value.cells, Ev.c_len] | (simp [Value.cells]; exact ⟨Ev.c_len _, Ev.c_len _⟩)) ?_
  intro bb
  refine cells_eq (show _ = Ev.enc.flat [eb] from by first | rfl | (simp [Value.cells, cellsOf, Enc.flat, Ev.enc])) ?_
  refine l_q rfl (q_assign rfl rfl) rfl rfl ?_
  refine l_nil ?_
  refine k_then ?_
  refine c_seq ?_
  refine c_draw [(0, some true), (1, some true), (2, some true), (3, some true), (4, some true), (5, some true), (6, some true), (7, some true), (8, some true), (9, some true), (10, some true), (11, some true), (12, some true), (13, some true), (14, some true), (15, some true), (16, some true), (17, some true), (18, some true), (19, some false), (20, some true), (21, some true), (22, some true), (23, some true), (24, some false), (25, some true), (26, some true), (27, some true), (28, some true), (29, some true), (30, some false), (31, some true), (32, some true), (33, some true), (34, some true), (35, some false), (36, some true), (37, some true), (38, some true), (39, some true), (40, some true), (41, some true), (42, some true), (43, some true), (44, some true), (45, some false), (46, some true), (47, some true), (48, some true), (49, some true), (50, some false), (51, some true), (52, some true)] [] [(_, some true), (_, some true), (_, some true), (_, some true), (_, some true), (_, some true), (_, some true), (_, some true), (_, some true), (_, some true), (_, some true), (_, some true), (_, some true), (_, some true), (_, some true), (_, some true), (_, some true), (_, some true), (_, some true), (_, some false), (_, some true), (_, some true), (_, some true), (_, some true), (_, some false), (_, some true), (_, some true), (_, some true), (_, some true), (_, some true), (_, some false), (_, some true), (_, some true), (_, some true), (_, some true), (_, some false), (_, some true), (_, some true), (_, some true), (_, some true), (_, some true), (_, some true), (_, some true), (_, some true), (_, some true), (_, some false), (_, some true), (_, some true), (_, some true), (_, some true), (_, some false), (_, some true), (_, some true)] (fun w2 => RdV w2 v Ca.enc [ca, cb]) (blind_then blind_body) rfl (by kernel_rfl) (by kernel_rfl) rfl rfl rfl (by kernel_rfl) St.drawn (fun _ h => h.rd 1 rfl) ?_
  refine d_q rfl (q_move rfl rfl) rfl rfl ?_
  refine d_q rfl (q_lenV rfl Try.underlying28 rfl (fun _ h => h)) rfl rfl ?_
  refine d_q rfl (q_eql rfl rfl rfl) rfl rfl ?_
  refine d_q rfl (q_move rfl rfl) rfl rfl ?_
  refine Pre.setB (t := 21) (c := true) rfl (by first | rfl | exact a_chk | exact a_lrg | (rw [a_wid]; rfl) | (rw [a_pen]; rfl) | (rw [a_bad]; rfl) | (rw [a_bef]; rfl)) ?_
  refine d_q rfl (q_move rfl rfl) rfl rfl ?_
  refine d_q rfl (q_indexV 1 rfl Try.underlying28 Try.sizeOf47 rfl (fun _ h => h) rfl rfl (by omega)) rfl rfl ?_
  refine d_q rfl (q_fieldAddr rfl Try.underlying47 rfl Try.sizeOf3 rfl rfl) rfl rfl ?_
  refine d_q rfl (q_loadV 1 6 rfl Try.isAgg3 rfl rfl (fun _ h => h) (rfl : [ca, cb][1]? = some cb) rfl) rfl rfl ?_
  refine d_q rfl (q_eql rfl rfl rfl) rfl rfl ?_
  refine d_q rfl (q_pick_t rfl rfl rfl) rfl rfl ?_
  refine d_q rfl (q_move rfl rfl) rfl rfl ?_
  refine Pre.setB (t := 28) (c := true) rfl (by first | rfl | exact a_chk | exact a_lrg | (rw [a_wid]; rfl) | (rw [a_pen]; rfl) | (rw [a_bad]; rfl) | (rw [a_bef]; rfl)) ?_
  refine d_q rfl (q_move rfl rfl) rfl rfl ?_
  refine d_q rfl (q_indexV 1 rfl Try.underlying28 Try.sizeOf47 rfl (fun _ h => h) rfl rfl (by omega)) rfl rfl ?_
  refine d_q rfl (q_fieldAddr rfl Try.underlying47 rfl Try.sizeOf3 rfl rfl) rfl rfl ?_
  refine d_q rfl (q_loadV 1 7 rfl Try.isAgg3 rfl rfl (fun _ h => h) (rfl : [ca, cb][1]? = some cb) rfl) rfl rfl ?_
  refine d_q rfl (q_eql rfl rfl rfl) rfl rfl ?_
  refine d_q rfl (q_pick_t rfl rfl rfl) rfl rfl ?_
  refine d_q rfl (q_move rfl rfl) rfl rfl ?_
  refine Pre.setB (t := 35) (c := true) rfl (by first | rfl | exact a_chk | exact a_lrg | (rw [a_wid]; rfl) | (rw [a_pen]; rfl) | (rw [a_bad]; rfl) | (rw [a_bef]; rfl)) ?_
  refine d_q rfl (q_move rfl rfl) rfl rfl ?_
  refine d_e rfl ?_
  refine e_call_00 (wid_spec [ca, cb] (by decide)) rfl rfl rfl Try.call16 rfl (fun _ h => h.rd 1 rfl) ?_
  intro _ _
  refine d_held (fun _ h => h.rd 1 rfl) ?_
  refine d_q rfl (q_eql rfl rfl rfl) rfl rfl ?_
  refine d_q rfl (q_pick_t rfl rfl rfl) rfl rfl ?_
  refine d_q rfl (q_move rfl rfl) rfl rfl ?_
  refine Pre.setB (t := 40) (c := true) rfl (by first | rfl | exact a_chk | exact a_lrg | (rw [a_wid]; rfl) | (rw [a_pen]; rfl) | (rw [a_bad]; rfl) | (rw [a_bef]; rfl)) ?_
  refine d_q rfl (q_move rfl rfl) rfl rfl ?_
  refine d_e rfl ?_
  refine e_call_00 (pen_spec [ca, cb] (by decide)) rfl rfl rfl Try.call18 rfl (fun _ h => h.rd 1 rfl) ?_
  intro _ _
  refine d_held (fun _ h => h.rd 1 rfl) ?_
  refine d_q rfl (q_eql rfl rfl rfl) rfl rfl ?_
  refine d_q rfl (q_pick_t rfl rfl rfl) rfl rfl ?_
  refine d_q rfl (q_move rfl rfl) rfl rfl ?_
  refine Pre.setB (t := 45) (c := true) rfl (by first | rfl | exact a_chk | exact a_lrg | (rw [a_wid]; rfl) | (rw [a_pen]; rfl) | (rw [a_bad]; rfl) | (rw [a_bef]; rfl)) ?_
  refine d_q rfl (q_move rfl rfl) rfl rfl ?_
  refine d_q rfl (q_move rfl rfl) rfl rfl ?_
  refine d_e rfl ?_
  refine e_call_00 (chk_spec [e0, e1] [⟨some ⟨b0, 0, none⟩, 1, 1⟩, ⟨some ⟨b1, 0, none⟩, 1, 1⟩] aOps (by decide) (by decide) a_sz) rfl rfl rfl Try.call13 rfl (fun _ h => ⟨lit_rd (h.at 2 rfl) Ev.enc [e0, e1] rfl rfl, (a_rr (h.at 5 rfl) (h.at 4 rfl) (h.at 3 rfl))⟩) ?_
  intro _ _
  refine d_held (fun _ h => h.rd 1 rfl) ?_
  refine d_q rfl (q_pick_t rfl rfl rfl) rfl rfl ?_
  refine d_q rfl (q_move rfl rfl) rfl rfl ?_
  refine Pre.setB (t := 50) (c := true) rfl (by first | rfl | exact a_chk | exact a_lrg | (rw [a_wid]; rfl) | (rw [a_pen]; rfl) | (rw [a_bad]; rfl) | (rw [a_bef]; rfl)) ?_
  refine d_q rfl (q_move rfl rfl) rfl rfl ?_
  refine d_q rfl (q_move rfl rfl) rfl rfl ?_
  refine d_e rfl ?_
  refine e_call_00 (chk_spec [eb] [⟨some ⟨b0, 0, none⟩, 1, 1⟩, ⟨some ⟨b1, 0, none⟩, 1, 1⟩] aOps (by decide) (by decide) a_sz) rfl rfl rfl Try.call13 rfl (fun _ h => ⟨lit_rd (h.at 0 rfl) Ev.enc [eb] rfl rfl, (a_rr (h.at 5 rfl) (h.at 4 rfl) (h.at 3 rfl))⟩) ?_
  intro _ _
  refine d_held (fun _ h => h.rd 1 rfl) ?_
  refine d_q rfl (q_not rfl rfl) rfl rfl ?_
  refine d_q rfl (q_pick_t rfl rfl rfl) rfl rfl ?_
  refine d_q rfl (q_move rfl rfl) rfl rfl ?_
  refine Pre.setB (t := 56) (c := true) rfl (by first | rfl | exact a_chk | exact a_lrg | (rw [a_wid]; rfl) | (rw [a_pen]; rfl) | (rw [a_bad]; rfl) | (rw [a_bef]; rfl)) ?_
  refine d_q rfl (q_move rfl rfl) rfl rfl ?_
  refine d_q rfl (q_indexV 0 rfl Try.underlying28 Try.sizeOf47 rfl (fun _ h => h) rfl rfl (by omega)) rfl rfl ?_
  refine d_q rfl (q_loadVAgg 0 rfl Try.isAgg47 Try.sizeOf47 rfl rfl (fun _ h => h) (rfl : [ca, cb][0]? = some ca)) rfl rfl ?_
  refine d_q rfl (q_move rfl rfl) rfl rfl ?_
  refine d_q rfl (q_indexV 1 rfl Try.underlying28 Try.sizeOf47 rfl (fun _ h => h) rfl rfl (by omega)) rfl rfl ?_
  refine d_q rfl (q_loadVAgg 1 rfl Try.isAgg47 Try.sizeOf47 rfl rfl (fun _ h => h) (rfl : [ca, cb][1]? = some cb)) rfl rfl ?_
  refine d_e rfl ?_
  refine e_call_00 (bef_spec ca cb) rfl rfl rfl Try.call21 rfl (fun _ _ => trivial) ?_
  intro _ _
  refine d_held (fun _ h => h.rd 1 rfl) ?_
  refine d_q rfl (q_not rfl rfl) rfl rfl ?_
  refine d_q rfl (q_pick_t rfl rfl rfl) rfl rfl ?_
  refine d_q rfl (q_move rfl rfl) rfl rfl ?_
  refine Pre.setB (t := 66) (c := true) rfl (by first | rfl | exact a_chk | exact a_lrg | (rw [a_wid]; rfl) | (rw [a_pen]; rfl) | (rw [a_bad]; rfl) | (rw [a_bef]; rfl)) ?_
  refine d_q rfl (q_build (on'.c) rfl rfl (fun w => by kernel_rfl)) rfl rfl ?_
  refine d_e rfl ?_
  refine e_call_00 (lrg_spec on') rfl rfl rfl Try.call23 rfl (fun _ _ => trivial) ?_
  intro _ _
  refine d_held (fun _ h => h.rd 1 rfl) ?_
  refine d_q rfl (q_pick_t rfl rfl rfl) rfl rfl ?_
  refine d_q rfl (q_assign rfl rfl) rfl rfl ?_
  refine d_nil ?_
  refine k_then ?_
  refine c_ret ?_
  refine r_one rfl rfl ?_
  exact fun _ h => ⟨(), congrArg (fun z => Ending.returned (Value.bool z)) (by first | rfl | exact a_lrg), trivial, h.nothing⟩
end Go.Proofs.Ythfdmeikpbkpaaa
