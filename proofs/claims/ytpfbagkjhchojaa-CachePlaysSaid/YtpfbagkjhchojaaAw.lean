/- the example -/
import Derived.Test.YtpfbagkjhchojaaPk
set_option linter.unusedVariables false
set_option linter.unusedSimpArgs false
namespace Go.Proofs.Ytpfbagkjhchojaa
open Go.Sep Go.RowKit

/-! ## The example -/
def aw1 : Mo := ((mo0 1).pin 0 5).2
def aw2 : Mo := (aw1.pin 1 5).2
def aw3 : Mo := (aw2.pin 2 6).2
def aw4 : Mo := (aw3.claim 2).2
def aw5 (lf : Bool) (es : List En) : Mo := (aw4.fill 5 lf es).2
def awF (lf : Bool) (es : List En) : Vw := ⟨2, 5, 0, 2, true, false, lf, es⟩
theorem aw_1 : ((mo0 1).pin 0 5).1 = 3 := by decide +kernel
theorem aw_2 : (aw1.pin 1 5).1 = 2 := by decide +kernel
theorem aw_3 : (aw2.pin 2 6).1 = 4 := by decide +kernel
theorem aw_4 : (aw3.claim 2).1 = false := by decide +kernel
theorem aw_5 (lf : Bool) (es : List En) : (aw4.fill 5 lf es).1 = ([1], true) := rfl
theorem aw_fr (lf : Bool) (es : List En) : (aw5 lf es).fr = [awF lf es] := rfl
theorem aw_node (lf : Bool) (es : List En) : (aw5 lf es).node 5 = ((lf, es), true) := rfl
theorem aw_ev (lf : Bool) (es : List En) : (aw5 lf es).evict = (none, aw5 lf es) := evict_none (by show (swM [false] [true] 0).1 = none; decide +kernel)
theorem aw_line (lf : Bool) (es : List En) : (aw5 lf es).line = [(2, 6)] := rfl
theorem aw_may2 (lf : Bool) (es : List En) : (aw5 lf es).may 2 = false := rfl
theorem aw_may1 (lf : Bool) (es : List En) : (aw5 lf es).may 1 = true := rfl
theorem aw_free (lf : Bool) (es : List En) : (aw5 lf es).free = 0 := rfl
theorem map_one {l : List FC} {y : Vw} (h : l.map vw = [y]) : ∃ f, l = [f] ∧ vw f = y := by
  match l, h with
  | [f], h => exact ⟨f, rfl, by simpa using h⟩

set_option maxRecDepth 100000 in
set_option maxHeartbeats 1000000 in
theorem awake_spec : Con Try.prog 15 [] (fun _ => True) [] (fun _ : Unit => .bool true) (fun _ => True) (fun _ => []) := by
  intro w hE hH
  refine enter (n := 142) (vs := []) (St w [] []) Try.func15 rfl rfl rfl (St.init hH) ?_
  refine c_seq ?_
  refine c_region _ rfl ?_
  refine l_q rfl (q_assign rfl rfl) rfl rfl ?_
  refine l_nil ?_
  refine k_then ?_
  refine c_seq ?_
  refine c_region _ rfl ?_
  refine l_e rfl ?_
  refine e_callH [] (HA := []) (qnew 1 (by decide) (by decide)) rfl rfl rfl Try.call9 rfl (fun _ _ => trivial) ?_
  rintro ⟨r1, r1_⟩ ⟨hm2, hg3, hk4⟩
  dsimp only at hm2 hg3 hk4
  refine Pre.world (St _ _ (Q.H r1 r1_)) (fun _ h => h) ?_
  refine l_q rfl (q_move rfl rfl) rfl rfl ?_
  refine l_q rfl (q_extract rfl rfl rfl) rfl rfl ?_
  refine l_q rfl (q_extract rfl rfl rfl) rfl rfl ?_
  refine l_q rfl (q_assign rfl rfl) rfl rfl ?_
  refine l_q rfl (q_assign rfl rfl) rfl rfl ?_
  refine l_nil ?_
  refine k_then ?_
  refine c_seq ?_
  refine c_region _ rfl ?_
  refine l_e rfl ?_
  refine e_call_00 (new_bad 0 (by decide)) rfl rfl rfl Try.call9 rfl (fun _ _ => trivial) ?_
  intro _ _
  refine l_q rfl (q_move rfl rfl) rfl rfl ?_
  refine l_q rfl (q_extract rfl rfl rfl) rfl rfl ?_
  refine l_q rfl (q_extract rfl rfl rfl) rfl rfl ?_
  refine l_q rfl (q_assign rfl rfl) rfl rfl ?_
  refine l_q rfl (q_assign rfl rfl) rfl rfl ?_
  refine l_nil ?_
  refine k_then ?_
  refine c_seq ?_
  refine c_seq ?_
  refine c_region _ rfl ?_
  refine l_q rfl (q_move rfl rfl) rfl rfl ?_
  refine l_q rfl (q_neq rfl rfl rfl) rfl rfl ?_
  refine l_q rfl (q_move rfl rfl) rfl rfl ?_
  refine Pre.setB (t := 28) (c := false) rfl (rfl) ?_
  refine l_q rfl (q_move rfl rfl) rfl rfl ?_
  refine l_q rfl (q_eqp rfl Try.underlying23 rfl rfl) rfl rfl ?_
  refine l_q rfl (q_pick_f rfl rfl rfl) rfl rfl ?_
  refine l_q rfl (q_move rfl rfl) rfl rfl ?_
  refine Pre.setB (t := 32) (c := false) rfl (rfl) ?_
  refine l_q rfl (q_move rfl rfl) rfl rfl ?_
  refine l_q rfl (q_neq rfl rfl rfl) rfl rfl ?_
  refine l_q rfl (q_pick_f rfl rfl rfl) rfl rfl ?_
  refine l_q rfl (q_move rfl rfl) rfl rfl ?_
  refine Pre.setB (t := 36) (c := false) rfl (rfl) ?_
  refine l_q rfl (q_move rfl rfl) rfl rfl ?_
  refine l_q rfl (q_nep rfl Try.underlying23 rfl rfl) rfl rfl ?_
  refine l_q rfl (q_pick_f rfl rfl rfl) rfl rfl ?_
  refine l_nil ?_
  refine k_then ?_
  refine Pre.setB (t := 39) (c := false) rfl (rfl) ?_
  refine c_false rfl ?_
  refine c_skip ?_
  refine k_then ?_
  refine c_seq ?_
  refine c_region _ rfl ?_
  refine l_q rfl (q_move rfl rfl) rfl rfl ?_
  refine l_e rfl ?_
  refine e_callH [] (qpin hk4 (by omega) (0) (5) (i64_in (by decide) (by decide))) rfl rfl rfl Try.call12 rfl (fun _ _ => trivial) ?_
  rintro q5 ⟨hm6_, _, hk7⟩
  refine Pre.world (St _ _ (Q.H r1 q5)) (fun _ h => h) ?_
  have hm6 : q5.M = aw1 := by rw [hm6_, hm2]; rfl
  refine Pre.setV (t := 41) (c := .int .i64 3) rfl (by rw [hm2]; exact congrArg _ aw_1) ?_
  refine l_q rfl (q_move rfl rfl) rfl rfl ?_
  refine l_e rfl ?_
  refine e_callH [] (qpin hk7 (by omega) (1) (5) (i64_in (by decide) (by decide))) rfl rfl rfl Try.call12 rfl (fun _ _ => trivial) ?_
  rintro q8 ⟨hm9_, _, hk10⟩
  refine Pre.world (St _ _ (Q.H r1 q8)) (fun _ h => h) ?_
  have hm9 : q8.M = aw2 := by rw [hm9_, hm6]; rfl
  refine Pre.setV (t := 43) (c := .int .i64 2) rfl (by rw [hm6]; exact congrArg _ aw_2) ?_
  refine l_q rfl (q_move rfl rfl) rfl rfl ?_
  refine l_e rfl ?_
  refine e_callH [] (qpin hk10 (by omega) (2) (6) (i64_in (by decide) (by decide))) rfl rfl rfl Try.call12 rfl (fun _ _ => trivial) ?_
  rintro q11 ⟨hm12_, _, hk13⟩
  refine Pre.world (St _ _ (Q.H r1 q11)) (fun _ h => h) ?_
  have hm12 : q11.M = aw3 := by rw [hm12_, hm9]; rfl
  refine Pre.setV (t := 45) (c := .int .i64 4) rfl (by rw [hm9]; exact congrArg _ aw_3) ?_
  refine l_q rfl (q_assign rfl rfl) rfl rfl ?_
  refine l_q rfl (q_assign rfl rfl) rfl rfl ?_
  refine l_q rfl (q_assign rfl rfl) rfl rfl ?_
  refine l_nil ?_
  refine k_then ?_
  refine c_seq ?_
  refine c_region _ rfl ?_
  refine l_q rfl (q_move rfl rfl) rfl rfl ?_
  refine l_e rfl ?_
  refine e_callH [] (qclaim hk13 (by omega) (2)) rfl rfl rfl Try.call22 rfl (fun _ _ => trivial) ?_
  rintro q14 ⟨hm15_, _, hk16⟩
  refine Pre.world (St _ _ (Q.H r1 q14)) (fun _ h => h) ?_
  have hm15 : q14.M = aw4 := by rw [hm15_, hm12]; rfl
  refine Pre.setV (t := 47) (c := .bool false) rfl (by rw [hm12]; exact congrArg _ aw_4) ?_
  refine l_q rfl (q_assign rfl rfl) rfl rfl ?_
  refine l_nil ?_
  refine k_then ?_
  refine c_seq ?_
  refine c_region _ rfl ?_
  refine l_q rfl (q_move rfl rfl) rfl rfl ?_
  refine l_e rfl ?_
  refine e_buildSliceV (sz := 1) [.const (.int .i64 0)] rfl rfl rfl rfl rfl Try.underlying28 Try.sizeOf3 rfl Try.zeroValue3 rfl ?_
  intro b1
  refine l_e rfl ?_
  refine e_call_01 (leaf_one (0)) rfl rfl rfl Try.call26 rfl (fun _ h => lit_rd (h.at 0 rfl) (encI .i64) [0] rfl rfl) ?_
  intro nv hnv
  obtain ⟨hlf, e, hle⟩ := hnv
  refine pull1 ?_
  refine drop0 ?_
  have hnl : nv.l.length ≤ 1000 := by rw [hle]; show 1 ≤ 1000; decide
  have h1l : ([1] : List Int).length = 1 := rfl
  refine l_e rfl ?_
  refine e_callH [] (qfill hk16 nv hnl 5) rfl rfl rfl Try.call14 rfl (fun _ _ => trivial) ?_
  rintro ⟨q17, v18⟩ ⟨hm19_, _, hk20⟩
  refine Pre.world (St _ _ (rowE v18 3 (encI .i64) (q14.M.fill 5 nv.leaf nv.l).1.1 :: nrow nv :: Q.H r1 q17)) (fun _ h => h) ?_
  dsimp only at hm19_ hk20
  have hm19 : q17.M = (aw5 nv.leaf nv.l) := by rw [hm19_, hm15]; rfl
  have ht21 : (q14.M.fill 5 nv.leaf nv.l).1 = ([1], true) := by rw [hm15]; exact aw_5 _ _
  refine row_eq (show _ = [1] from congrArg Prod.fst ht21) ?_
  refine Pre.setV (t := 52) (c := .tuple #[v18, .bool true]) rfl (by rw [congrArg Prod.snd ht21]) ?_
  refine l_q rfl (q_move rfl rfl) rfl rfl ?_
  refine l_q rfl (q_extract rfl rfl rfl) rfl rfl ?_
  refine l_q rfl (q_extract rfl rfl rfl) rfl rfl ?_
  refine l_q rfl (q_assign rfl rfl) rfl rfl ?_
  refine l_q rfl (q_assign rfl rfl) rfl rfl ?_
  refine l_nil ?_
  refine k_then ?_
  refine c_seq ?_
  refine c_region _ rfl ?_
  refine l_q rfl (q_move rfl rfl) rfl rfl ?_
  refine l_e rfl ?_
  refine e_callH [_, _] (qnode hk20 5) rfl rfl rfl Try.call32 rfl (fun _ _ => trivial) ?_
  rintro s22 _
  refine Pre.world (St _ _ (_ :: _ :: _ :: Q.H r1 q17)) (fun _ h => h) ?_
  have hn23 : q17.M.node 5 = ((nv.leaf, nv.l), true) := by rw [hm19]; exact aw_node _ _
  refine pull2 ?_
  refine row_eq (show _ = nv.l from by rw [hn23]) ?_
  refine Pre.setV (t := 57) (c := .tuple #[.agg (⟨nv.leaf, s22, nv.l⟩ : NV).c.toArray, .bool true]) rfl (by rw [hn23]) ?_
  refine l_q rfl (q_move rfl rfl) rfl rfl ?_
  refine l_q rfl (q_extract rfl rfl rfl) rfl rfl ?_
  refine l_q rfl (q_extract rfl rfl rfl) rfl rfl ?_
  refine l_e rfl ?_
  refine e_alloc rfl rfl rfl Try.zeroValue37 ?_
  intro bb
  refine cells_eq (show _ = nv0.c from rfl) ?_
  refine l_e rfl ?_
  refine e_storeAgg rfl rfl Try.sizeOf37 rfl rfl rfl (NV.one _) (by show 0 + 5 ≤ 5; decide) ?_
  refine cells_eq (show Sep.splice _ 0 ((⟨nv.leaf, s22, nv.l⟩ : NV)).c = ((⟨nv.leaf, s22, nv.l⟩ : NV)).c from Sep.splice_all rfl) ?_
  refine l_q rfl (q_assign rfl rfl) rfl rfl ?_
  refine l_nil ?_
  refine k_then ?_
  refine c_seq ?_
  refine c_region _ rfl ?_
  refine l_q rfl (q_move rfl rfl) rfl rfl ?_
  refine l_e rfl ?_
  refine e_callH [_, _, _, _] (qevict hk20) rfl rfl rfl Try.call20 rfl (fun _ _ => trivial) ?_
  rintro ⟨q24, en25⟩ ⟨hm26_, hg31, hk27, hi29, hx28⟩
  refine Pre.world (St _ _ (_ :: _ :: _ :: _ :: Q.H r1 q24)) (fun _ h => h) ?_
  dsimp only at hm26_ hk27 hi29 hx28 hg31
  rw [← hg31] at hi29
  have hm26 : q24.M = (aw5 nv.leaf nv.l) := by rw [hm26_, hm19]; exact congrArg Prod.snd (aw_ev _ _)
  have he30 : q17.M.evict.1 = none := by rw [hm19]; exact congrArg Prod.fst (aw_ev _ _)
  rw [he30] at hx28
  refine Pre.setV (t := 62) (c := evV none en25) rfl (by rw [he30]) ?_
  refine l_q rfl (q_move rfl rfl) rfl rfl ?_
  refine l_q rfl (q_extract rfl rfl rfl) rfl rfl ?_
  refine l_q rfl (q_extract rfl rfl rfl) rfl rfl ?_
  refine l_q rfl (q_extract rfl rfl rfl) rfl rfl ?_
  refine l_q rfl (q_extract rfl rfl rfl) rfl rfl ?_
  refine l_e rfl ?_
  refine e_alloc rfl rfl rfl Try.zeroValue37 ?_
  intro be
  refine cells_eq (show _ = nv0.c from rfl) ?_
  refine l_q rfl (q_assign rfl rfl) rfl rfl ?_
  refine l_e rfl ?_
  refine e_storeAgg rfl rfl Try.sizeOf37 rfl rfl rfl (NV.one _) (by show 0 + 5 ≤ 5; decide) ?_
  refine cells_eq (show Sep.splice _ 0 (nv0).c = (nv0).c from Sep.splice_all rfl) ?_
  refine l_q rfl (q_assign rfl rfl) rfl rfl ?_
  refine l_q rfl (q_assign rfl rfl) rfl rfl ?_
  refine l_nil ?_
  refine k_then ?_
  refine c_seq ?_
  refine c_region _ rfl ?_
  refine l_q rfl (q_move rfl rfl) rfl rfl ?_
  refine l_e rfl ?_
  refine e_callH [_, _, _, _, _] (qframes0 hk27) rfl rfl rfl Try.call16 rfl (fun _ _ => trivial) ?_
  rintro ⟨v32, fl33⟩ hf34
  refine Pre.world (St _ _ (_ :: _ :: _ :: _ :: _ :: rowE v32 44 FC.encA fl33 :: Q.H r1 q24)) (fun _ h => h) ?_
  dsimp only at hf34
  rw [hm26] at hf34
  refine l_q rfl (q_assign rfl rfl) rfl rfl ?_
  refine l_nil ?_
  refine k_then ?_
  refine c_seq ?_
  refine c_region _ rfl ?_
  refine l_q rfl (q_move rfl rfl) rfl rfl ?_
  refine l_q rfl (q_eql rfl rfl rfl) rfl rfl ?_
  refine l_q rfl (q_move rfl rfl) rfl rfl ?_
  obtain ⟨f, hlf_, hv_f⟩ := map_one hf34
  subst hlf_
  have h1f : ([f] : List FC).length = 1 := rfl
  have hfp : f.pins = 2 := congrArg Vw.pins hv_f
  refine Pre.setB (t := 71) (c := true) rfl (by first | rfl | exact decide_eq_true hfp | (rw [hle]; rfl)) ?_
  refine l_q rfl (q_move rfl rfl) rfl rfl ?_
  refine l_q rfl (q_eql rfl rfl rfl) rfl rfl ?_
  refine l_q rfl (q_pick_t rfl rfl rfl) rfl rfl ?_
  refine l_q rfl (q_move rfl rfl) rfl rfl ?_
  refine Pre.setB (t := 75) (c := true) rfl (by first | rfl | exact decide_eq_true hfp | (rw [hle]; rfl)) ?_
  refine l_q rfl (q_move rfl rfl) rfl rfl ?_
  refine l_q rfl (q_eql rfl rfl rfl) rfl rfl ?_
  refine l_q rfl (q_pick_t rfl rfl rfl) rfl rfl ?_
  refine l_q rfl (q_move rfl rfl) rfl rfl ?_
  refine Pre.setB (t := 79) (c := true) rfl (by first | rfl | exact decide_eq_true hfp | (rw [hle]; rfl)) ?_
  refine l_q rfl (q_move rfl rfl) rfl rfl ?_
  refine l_q rfl (q_not rfl rfl) rfl rfl ?_
  refine l_q rfl (q_pick_t rfl rfl rfl) rfl rfl ?_
  refine l_q rfl (q_move rfl rfl) rfl rfl ?_
  refine Pre.setB (t := 83) (c := true) rfl (by first | rfl | exact decide_eq_true hfp | (rw [hle]; rfl)) ?_
  refine l_q rfl (q_move rfl rfl) rfl rfl ?_
  refine l_q rfl (q_lenV rfl Try.underlying28 rfl (fun _ h => h.rd 3 rfl)) rfl rfl ?_
  refine l_q rfl (q_eql rfl rfl rfl) rfl rfl ?_
  refine l_q rfl (q_pick_t rfl rfl rfl) rfl rfl ?_
  refine l_q rfl (q_move rfl rfl) rfl rfl ?_
  refine Pre.setB (t := 88) (c := true) rfl (by first | rfl | exact decide_eq_true hfp | (rw [hle]; rfl)) ?_
  refine l_q rfl (q_move rfl rfl) rfl rfl ?_
  refine l_q rfl (q_indexV 0 rfl Try.underlying28 Try.sizeOf3 rfl (fun _ h => h.rd 3 rfl) rfl rfl (by omega)) rfl rfl ?_
  refine l_q rfl (q_loadV 0 0 rfl Try.isAgg3 rfl rfl (fun _ h => h.rd 3 rfl) (rfl : ([1] : List Int)[0]? = some 1) rfl) rfl rfl ?_
  refine l_q rfl (q_eql rfl rfl rfl) rfl rfl ?_
  refine l_q rfl (q_pick_t rfl rfl rfl) rfl rfl ?_
  refine l_q rfl (q_move rfl rfl) rfl rfl ?_
  refine Pre.setB (t := 94) (c := true) rfl (by first | rfl | exact decide_eq_true hfp | (rw [hle]; rfl)) ?_
  refine l_q rfl (q_move rfl rfl) rfl rfl ?_
  refine l_q rfl (q_pick_t rfl rfl rfl) rfl rfl ?_
  refine l_q rfl (q_move rfl rfl) rfl rfl ?_
  refine Pre.setB (t := 97) (c := true) rfl (by first | rfl | exact decide_eq_true hfp | (rw [hle]; rfl)) ?_
  refine l_q rfl (q_move rfl rfl) rfl rfl ?_
  refine l_q rfl (q_pick_t rfl rfl rfl) rfl rfl ?_
  refine l_q rfl (q_move rfl rfl) rfl rfl ?_
  refine Pre.setB (t := 100) (c := true) rfl (by first | rfl | exact decide_eq_true hfp | (rw [hle]; rfl)) ?_
  refine l_q rfl (q_fieldAddr rfl Try.underlying37 rfl Try.sizeOf33 rfl rfl) rfl rfl ?_
  refine l_q rfl (q_loadC rfl Try.isAgg33 rfl (fun _ h => h.at 1 rfl) rfl) rfl rfl ?_
  refine l_q rfl (q_lenV rfl Try.underlying33 rfl (fun _ h => h.rd 2 rfl)) rfl rfl ?_
  refine l_q rfl (q_eql rfl rfl rfl) rfl rfl ?_
  refine l_q rfl (q_pick_t rfl rfl rfl) rfl rfl ?_
  refine l_q rfl (q_move rfl rfl) rfl rfl ?_
  refine Pre.setB (t := 106) (c := true) rfl (by first | rfl | exact decide_eq_true hfp | (rw [hle]; rfl)) ?_
  refine l_q rfl (q_move rfl rfl) rfl rfl ?_
  refine l_q rfl (q_not rfl rfl) rfl rfl ?_
  refine l_q rfl (q_pick_t rfl rfl rfl) rfl rfl ?_
  refine l_q rfl (q_move rfl rfl) rfl rfl ?_
  refine Pre.setB (t := 110) (c := true) rfl (by first | rfl | exact decide_eq_true hfp | (rw [hle]; rfl)) ?_
  refine l_q rfl (q_move rfl rfl) rfl rfl ?_
  refine l_q rfl (q_lenV rfl Try.underlying39 rfl (fun _ h => h.rd 5 rfl)) rfl rfl ?_
  refine l_q rfl (q_eql rfl rfl rfl) rfl rfl ?_
  refine l_q rfl (q_pick_t rfl rfl rfl) rfl rfl ?_
  refine l_q rfl (q_move rfl rfl) rfl rfl ?_
  refine Pre.setB (t := 115) (c := true) rfl (by first | rfl | exact decide_eq_true hfp | (rw [hle]; rfl)) ?_
  refine l_q rfl (q_move rfl rfl) rfl rfl ?_
  refine l_q rfl (q_indexV 0 rfl Try.underlying39 Try.sizeOf44 rfl (fun _ h => h.rd 5 rfl) rfl rfl (by omega)) rfl rfl ?_
  refine l_q rfl (q_fieldAddr rfl Try.underlying44 rfl Try.sizeOf3 rfl rfl) rfl rfl ?_
  refine l_q rfl (q_loadV 0 2 rfl Try.isAgg3 rfl rfl (fun _ h => h.rd 5 rfl) (rfl : [f][0]? = some f) rfl) rfl rfl ?_
  refine l_q rfl (q_eql rfl rfl rfl) rfl rfl ?_
  refine l_q rfl (q_pick_t rfl rfl rfl) rfl rfl ?_
  refine l_q rfl (q_move rfl rfl) rfl rfl ?_
  refine Pre.setB (t := 122) (c := true) rfl (by first | rfl | exact decide_eq_true hfp | (rw [hle]; rfl)) ?_
  refine l_q rfl (q_move rfl rfl) rfl rfl ?_
  refine l_e rfl ?_
  refine e_callH [_, _, _, _, _, _] (qline hk27) rfl rfl rfl Try.call23 rfl (fun _ _ => trivial) ?_
  rintro v35 _
  refine Pre.world (St _ _ (_ :: _ :: _ :: _ :: _ :: _ :: _ :: Q.H r1 q24)) (fun _ h => h) ?_
  refine pull6 ?_
  refine row_eq (show _ = [2] from by rw [hm26]; rfl) ?_
  refine l_q rfl (q_lenV rfl Try.underlying28 rfl (fun _ h => h.rd 0 rfl)) rfl rfl ?_
  refine l_q rfl (q_eql rfl rfl rfl) rfl rfl ?_
  refine l_q rfl (q_pick_t rfl rfl rfl) rfl rfl ?_
  refine l_q rfl (q_move rfl rfl) rfl rfl ?_
  refine Pre.setB (t := 128) (c := true) rfl (by first | rfl | exact decide_eq_true hfp | (rw [hle]; rfl)) ?_
  refine l_q rfl (q_move rfl rfl) rfl rfl ?_
  refine l_e rfl ?_
  refine e_callH [_, _, _, _, _, _, _] (qmay hk27 2) rfl rfl rfl Try.call13 rfl (fun _ _ => trivial) ?_
  rintro _ _
  refine Pre.world (St _ _ (_ :: _ :: _ :: _ :: _ :: _ :: _ :: Q.H r1 q24)) (fun _ h => h) ?_
  refine Pre.setV (t := 130) (c := .bool false) rfl (by rw [hm26]; exact congrArg _ (aw_may2 _ _)) ?_
  refine l_q rfl (q_not rfl rfl) rfl rfl ?_
  refine l_q rfl (q_pick_t rfl rfl rfl) rfl rfl ?_
  refine l_q rfl (q_move rfl rfl) rfl rfl ?_
  refine Pre.setB (t := 133) (c := true) rfl (by first | rfl | exact decide_eq_true hfp | (rw [hle]; rfl)) ?_
  refine l_q rfl (q_move rfl rfl) rfl rfl ?_
  refine l_e rfl ?_
  refine e_callH [_, _, _, _, _, _, _] (qmay hk27 1) rfl rfl rfl Try.call13 rfl (fun _ _ => trivial) ?_
  rintro _ _
  refine Pre.world (St _ _ (_ :: _ :: _ :: _ :: _ :: _ :: _ :: Q.H r1 q24)) (fun _ h => h) ?_
  refine Pre.setV (t := 135) (c := .bool true) rfl (by rw [hm26]; exact congrArg _ (aw_may1 _ _)) ?_
  refine l_q rfl (q_pick_t rfl rfl rfl) rfl rfl ?_
  refine l_q rfl (q_move rfl rfl) rfl rfl ?_
  refine Pre.setB (t := 137) (c := true) rfl (by first | rfl | exact decide_eq_true hfp | (rw [hle]; rfl)) ?_
  refine l_q rfl (q_move rfl rfl) rfl rfl ?_
  refine l_e rfl ?_
  refine e_callH [_, _, _, _, _, _, _] (qfree hk27 ) rfl rfl rfl Try.call18 rfl (fun _ _ => trivial) ?_
  rintro _ _
  refine Pre.world (St _ _ (_ :: _ :: _ :: _ :: _ :: _ :: _ :: Q.H r1 q24)) (fun _ h => h) ?_
  refine Pre.setV (t := 139) (c := .int .i64 0) rfl (by rw [hm26]; exact congrArg _ (congrArg _ (aw_free _ _))) ?_
  refine l_q rfl (q_eql rfl rfl rfl) rfl rfl ?_
  refine l_q rfl (q_pick_t rfl rfl rfl) rfl rfl ?_
  refine l_q rfl (q_assign rfl rfl) rfl rfl ?_
  refine l_nil ?_
  refine k_then ?_
  refine c_ret ?_
  refine r_one rfl rfl ?_
  exact fun _ h => ⟨(), rfl, trivial, h.nothing⟩
end Go.Proofs.Ytpfbagkjhchojaa
