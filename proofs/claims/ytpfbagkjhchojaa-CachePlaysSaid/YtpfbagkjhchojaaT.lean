/- the reference cache: what turns it -/
import Derived.Test.YtpfbagkjhchojaaS
set_option linter.unusedVariables false
set_option linter.unusedSimpArgs false
namespace Go.Proofs.Ytpfbagkjhchojaa
open Go.Sep Go.RowKit

/-- A frame of the reference that is free. -/
def fZ : FC := ⟨0, -1, 0, 0, false, false, nv0⟩
theorem vw_fZ : vw fZ = free0 := rfl
theorem mayW_at {M : Mo} {t b : Int} {i : Nat} {q : Int × Int} (h1 : tkB t = true) (h2 : M.waits t = false) (h : M.stand t = some i) (hq : M.line[i]? = some q) (hqt : q.1 = t) : M.mayW t b = decide (q.2 = b) := by
  unfold Mo.mayW
  rw [h1, h2, h]
  show (true && !false && decide (M.line[i]? = some (t, b))) = _
  rw [hq]
  simp only [Bool.not_false, Bool.and_self, Bool.true_and, Option.some.injEq]
  rw [decide_eq_decide]
  exact ⟨fun e => congrArg Prod.snd e, fun e => Prod.ext hqt e⟩
theorem mayW_no {M : Mo} {t b : Int} (h1 : tkB t = true) (h2 : M.waits t = false) (h : M.stand t = none) : M.mayW t b = true := by unfold Mo.mayW; rw [h1, h2, h]; rfl
theorem mayW_t {M : Mo} {t b : Int} (h1 : tkB t = false) : M.mayW t b = false := by unfold Mo.mayW; rw [h1]; rfl
theorem mayW_w {M : Mo} {t b : Int} (h1 : M.waits t = true) : M.mayW t b = false := by unfold Mo.mayW; rw [h1]; simp
theorem takes_none1 {M : Mo} {t : Int} (h : M.freeI = none) : M.takes t = none := by unfold Mo.takes; rw [h]; split <;> rfl
theorem takes_none2 {M : Mo} {t : Int} {q : Int × Int} {r : List (Int × Int)} (h : M.line = q :: r) (hq : ¬ q.1 = t) : M.takes t = none := by unfold Mo.takes Mo.turn; rw [h]; simp only; rw [if_neg (show ¬ decide (q.1 = t) = true from fun e => hq (of_decide_eq_true e))]
theorem takes_yes1 {M : Mo} {t : Int} {k : Nat} (h : M.line = []) (hk : M.freeI = some k) : M.takes t = some k := by unfold Mo.takes Mo.turn; rw [h, hk]; rfl
theorem takes_yes2 {M : Mo} {t : Int} {k : Nat} {q : Int × Int} {r : List (Int × Int)} (h : M.line = q :: r) (hq : q.1 = t) (hk : M.freeI = some k) : M.takes t = some k := by unfold Mo.takes Mo.turn; rw [h, hk]; simp only; rw [if_pos (show decide (q.1 = t) = true from decide_eq_true hq)]
theorem ask_none {M : Mo} {t b : Int} (h : M.stand t = none) : (M.ask t b).line = M.line ++ [(t, b)] := by unfold Mo.ask; rw [h]; rfl
theorem ask_some {M : Mo} {t b : Int} {i : Nat} (h : M.stand t = some i) : (M.ask t b).line = M.line := by unfold Mo.ask; rw [h]; rfl
theorem RelR.put {R : RS} {M : Mo} (h : RelR R M) {i : Nat} {f' : FC} {y' : Vw} (hv : vw f' = y') : RelR { R with fl := R.fl.set i f' } (M.put i y') := by
  show (R.fl.set i f').map vw = M.fr.set i y'
  rw [List.map_set, h, hv]
theorem claims_zero {M : Mo} {B : Nat} (hO : M.Ok B) {t : Int} (h : tkB t = false) : M.claims t = 0 ∧ M.give t = M := by
  have h0 : ∀ f ∈ M.fr, isC t f = false := fun f hf => by
    cases hc : isC t f with
    | false => rfl
    | true =>
      unfold isC at hc
      simp only [Bool.and_eq_true, decide_eq_true_eq] at hc
      have := hO.own f hf hc.1
      rw [hc.2] at this
      unfold tkB at h; simp at h; omega
  refine ⟨List.countP_eq_zero.2 (fun f hf => by rw [h0 f hf]; decide), ?_⟩
  unfold Mo.give
  have : M.fr.map (fun f => if isC t f = true then free0 else f) = M.fr := by
    conv => rhs; rw [← List.map_id M.fr]
    exact List.map_congr_left (fun f hf => by rw [h0 f hf]; rfl)
  rw [this]
theorem first_none {M : Mo} {B : Nat} (hO : M.Ok B) {t : Int} (h : tkB t = false) : fst1 (isC t) M.fr = none := fst1_none (fun f hf => by
  have := (claims_zero hO h).1
  unfold Mo.claims at this
  have := List.countP_eq_zero.1 this f hf
  simpa using this)
def gvF (t : Int) (f : FC) : FC := if isC t (vw f) = true then fZ else f
theorem gvF_map (t : Int) (l : List FC) : (l.map (gvF t)).map vw = (l.map vw).map (fun f => if isC t f = true then free0 else f) := by
  rw [List.map_map, List.map_map]
  refine List.map_congr_left (fun f _ => ?_)
  simp only [Function.comp, gvF]
  split <;> rfl
theorem map_step {α : Type} {g : α → α} {l : List α} {i : Nat} {f : α} (h : l[i]? = some f) : ((l.take i).map g ++ l.drop i).set i (g f) = (l.take (i + 1)).map g ++ l.drop (i + 1) := by
  have hi := (List.getElem?_eq_some_iff.1 h).1
  have ht : ((l.take i).map g).length = i := by rw [List.length_map, List.length_take]; omega
  rw [List.set_append_right _ _ (by omega), ht, Nat.sub_self, List.take_add_one, h, List.drop_eq_getElem_cons (by omega), List.set_cons_zero, List.map_append]
  simp [List.append_assoc]
theorem map_get {α : Type} {g : α → α} {l : List α} {i : Nat} {f : α} (h : l[i]? = some f) : ((l.take i).map g ++ l.drop i)[i]? = some f := by
  have hi := (List.getElem?_eq_some_iff.1 h).1
  rw [List.getElem?_append_right (by rw [List.length_map, List.length_take]; omega), List.length_map, List.length_take, Nat.min_eq_left (by omega), Nat.sub_self, List.getElem?_drop]; exact h
theorem map_len {α : Type} (g : α → α) (l : List α) (i : Nat) : ((l.take i).map g ++ l.drop i).length = l.length := by rw [List.length_append, List.length_map, List.length_take, List.length_drop]; omega
theorem NIn.gv {G : List Ent} {fl : List FC} (h : NIn G fl) (t : Int) : NIn G (fl.map (gvF t)) := fun g hg => by
  obtain ⟨f, hf, rfl⟩ := List.mem_map.1 hg
  unfold gvF
  split
  · exact .inl ⟨rfl, rfl⟩
  · exact h f hf
theorem RelR.zero (v w : Value) (n : Nat) : RelR ⟨v, List.replicate n fZ, w, w⟩ (mo0 n) := by
  show (List.replicate n fZ).map vw = List.replicate n free0
  rw [List.map_replicate]; rfl
def f00 : FC := ⟨0, 0, 0, 0, false, false, nv0⟩
theorem rep_get {n i : Nat} (h : i < n) : (List.replicate i fZ ++ List.replicate (n - i) f00)[i]? = some f00 := by
  rw [List.getElem?_append_right (by simp), List.length_replicate, Nat.sub_self, List.getElem?_replicate, if_pos (by omega)]
theorem rep_set {n i : Nat} (h : i < n) : (List.replicate i fZ ++ List.replicate (n - i) f00).set i fZ = List.replicate (i + 1) fZ ++ List.replicate (n - (i + 1)) f00 := by
  rw [List.set_append_right _ _ (by simp), List.length_replicate, Nat.sub_self]
  obtain ⟨m, hm⟩ : ∃ m, n - i = m + 1 := ⟨n - i - 1, by omega⟩
  rw [hm, List.replicate_succ, List.set_cons_zero, show n - (i + 1) = m from by omega, List.replicate_succ', List.append_assoc]; rfl
theorem filter_snocN {α : Type} {p : α → Bool} {l : List α} {i : Nat} {x : α} (h : l[i]? = some x) : (l.take (i + 1)).filter (fun q => !p q) = (l.take i).filter (fun q => !p q) ++ (if p x = true then [] else [x]) := by
  rw [filter_snoc h]; cases p x <;> rfl

set_option maxRecDepth 100000 in
set_option maxHeartbeats 1000000 in
theorem rtakes_spec {br : Nat} {R : RS} {M : Mo} {B : Nat} (hR : RelR R M) (hO : M.Ok B) (t b : Int) : Con Try.prog 89 [.pointer (some ⟨br, 0, none⟩), .int .i64 t, .int .i64 b] (fun _ => True) (R.H br M) (fun v : Value => .int .i64 (io (M.takes t))) (fun _ => True) (fun v => RS.H br { R with vL := v } (M.tk t b)) := by
  intro w hE hH
  refine enter (n := 60) (vs := [.pointer (some ⟨br, 0, none⟩), .int .i64 t, .int .i64 b]) (St w (dom (R.H br M)) (cellsE br 100 (RS.cells R M) :: rowE (R).vF 102 FC.encR (R).fl :: rowE (R).vL 138 encP (Mo.line M) :: rowE (R).vO 138 encP (Mo.loads M) :: [])) Try.func89 rfl rfl rfl (St.init hH) ?_
  refine c_seq ?_
  have hfl := hR.len
  have h64 := hO.n64
  have hB9 := hO.B9
  have hlB := hO.lB
  have hlL := hO.ll
  refine c_region _ rfl ?_
  refine l_q rfl (q_assign rfl rfl) rfl rfl ?_
  refine l_nil ?_
  refine k_then ?_
  refine c_seq ?_
  refine c_region _ rfl ?_
  refine l_q rfl (q_move rfl rfl) rfl rfl ?_
  refine l_e rfl ?_
  refine e_call_00 (rfreei_spec hR hO) rfl rfl rfl Try.call90 rfl (fun _ h => RC.ofm (R := R) (M := M) h (fun e he => he)) ?_
  intro _ _
  refine l_q rfl (q_assign rfl rfl) rfl rfl ?_
  refine l_nil ?_
  refine k_then ?_
  refine c_seq ?_
  refine c_seq ?_
  refine opt_cases (M.freeI) (fun hfr => ?_) (fun k hfr => ?_)
  · refine Pre.setV (t := 7) (c := .int .i64 (-1)) rfl (by rw [hfr]; rfl) ?_
    refine c_region _ rfl ?_
    refine l_q rfl (q_move rfl rfl) rfl rfl ?_
    refine l_q rfl (q_geq rfl rfl rfl) rfl rfl ?_
    refine l_q rfl (q_move rfl rfl) rfl rfl ?_
    refine Pre.setB (t := 12) (c := false) rfl (rfl) ?_
    refine l_not rfl rfl rfl ?_
    refine l_not rfl rfl rfl ?_
    refine l_not rfl rfl rfl ?_
    refine l_not rfl rfl rfl ?_
    refine l_not rfl rfl rfl ?_
    refine l_not rfl rfl rfl ?_
    refine l_not rfl rfl rfl ?_
    refine l_not rfl rfl rfl ?_
    refine l_not rfl rfl rfl ?_
    refine l_not rfl rfl rfl ?_
    refine l_not rfl rfl rfl ?_
    refine l_not rfl rfl rfl ?_
    refine l_not rfl rfl rfl ?_
    refine l_not rfl rfl rfl ?_
    refine l_not rfl rfl rfl ?_
    refine l_not rfl rfl rfl ?_
    refine l_not rfl rfl rfl ?_
    refine l_q rfl (q_pick_f rfl rfl rfl) rfl rfl ?_
    refine l_nil ?_
    refine k_then ?_
    refine c_false rfl ?_
    refine c_skip ?_
    refine k_then ?_
    refine c_seq ?_
    refine c_seq ?_
    refine c_region _ rfl ?_
    refine l_q rfl (q_move rfl rfl) rfl rfl ?_
    refine l_q rfl (q_nilCheck rfl rfl) rfl rfl ?_
    refine l_q rfl (q_fieldAddr rfl Try.underlying100 rfl Try.sizeOf98 rfl rfl) rfl rfl ?_
    refine l_q rfl (q_loadC rfl Try.isAgg98 rfl (fun _ h => h.at 0 rfl) rfl) rfl rfl ?_
    refine l_q rfl (q_move rfl rfl) rfl rfl ?_
    have htk := takes_none1 (t := t) hfr
    refine l_e rfl ?_
    refine e_call_00 (rat_spec M.line t (by omega)) rfl rfl rfl Try.call86 rfl (fun _ h => h.rd 2 rfl) ?_
    intro _ _
    refine l_q rfl (q_lss rfl rfl rfl) rfl rfl ?_
    refine l_nil ?_
    refine k_then ?_
    refine opt_cases (M.stand t) (fun hs => ?_) (fun j hs => ?_)
    · refine Pre.setB (t := 47) (c := true) rfl (by rw [show fst1 (isT t) M.line = none from hs]; rfl) ?_
      refine c_true rfl ?_
      refine c_region _ rfl ?_
      refine l_q rfl (q_move rfl rfl) rfl rfl ?_
      refine l_q rfl (q_move rfl rfl) rfl rfl ?_
      refine l_q rfl (q_nilCheck rfl rfl) rfl rfl ?_
      refine l_q rfl (q_fieldAddr rfl Try.underlying100 rfl Try.sizeOf98 rfl rfl) rfl rfl ?_
      refine l_q rfl (q_loadC rfl Try.isAgg98 rfl (fun _ h => h.at 0 rfl) rfl) rfl rfl ?_
      refine l_q rfl (q_move rfl rfl) rfl rfl ?_
      refine l_q rfl (q_move rfl rfl) rfl rfl ?_
      have hlv := ask_none (b := b) hs
      refine l_q rfl (q_build (encP.f (t, b)) rfl rfl (fun w => by kernel_rfl)) rfl rfl ?_
      refine l_e rfl ?_
      refine e_buildSliceV (sz := 2) [.tmp 55] rfl rfl rfl rfl rfl Try.underlying98 Try.sizeOf138 rfl Try.zeroValue138 rfl ?_
      intro b1
      refine pull3 ?_
      refine l_e rfl ?_
      refine e_append rfl rfl rfl Try.underlying98 Try.underlying98 info138 rfl rfl rfl rfl rfl (fun _ h => lit_rd (h.at 1 rfl) encP [(t, b)] rfl rfl) (by simp only [byt138, List.length_append, List.length_cons, List.length_nil]; omega) (by simp only [List.length_append, List.length_cons, List.length_nil]; omega) ?_
      intro v
      refine row_eq (show _ = (M.tk t b).line from by rw [tk_none htk, hlv]) ?_
      refine pull1 ?_
      refine drop0 ?_
      refine l_q rfl (q_nilCheck rfl rfl) rfl rfl ?_
      refine l_q rfl (q_fieldAddr rfl Try.underlying100 rfl Try.sizeOf98 rfl rfl) rfl rfl ?_
      refine Pre.fact (fun _ h => rd_sv (h.rd 0 rfl)) ?_
      rintro ⟨sv, rfl⟩
      refine pull1 ?_
      refine l_e rfl ?_
      refine e_store rfl rfl Try.sizeOf98 rfl rfl rfl (Nat.le_of_ble_eq_true rfl) ?_
      refine cells_eq (show _ = RS.cells { R with vL := sv.v } (M.tk t b) from by rw [tk_none htk]; rfl) ?_
      refine l_nil ?_
      refine k_then ?_
      refine c_seq ?_
      refine c_region _ rfl ?_
      refine l_q rfl (q_assign rfl rfl) rfl rfl ?_
      refine l_nil ?_
      refine k_then ?_
      refine c_ret ?_
      refine pull3 ?_
      refine pull2 ?_
      refine pull3 ?_
      refine pull3 ?_
      refine r_one rfl rfl ?_
      exact fun _ h => ⟨sv.v, by rw [htk]; rfl, trivial, by rw [tk_none htk] at h ⊢; exact h⟩
    · refine Pre.setB (t := 47) (c := false) rfl (by rw [show fst1 (isT t) M.line = some j from hs]; exact decide_eq_false (by simp [io])) ?_
      refine c_false rfl ?_
      refine c_skip ?_
      refine k_then ?_
      refine c_seq ?_
      refine c_region _ rfl ?_
      refine l_q rfl (q_assign rfl rfl) rfl rfl ?_
      refine l_nil ?_
      refine k_then ?_
      refine c_ret ?_
      have hlv := ask_some (b := b) hs
      refine r_one rfl rfl ?_
      exact fun _ h => ⟨R.vL, by rw [htk]; rfl, trivial, by rw [tk_none htk]; show St _ _ (cellsE br 100 (RS.cells R M) :: rowE R.vF 102 FC.encR R.fl :: rowE R.vL 138 encP (M.ask t b).line :: rowE R.vO 138 encP M.loads :: []) _; rw [hlv]; exact h⟩
  · refine Pre.setV (t := 7) (c := .int .i64 (k : Int)) rfl (by rw [hfr]; rfl) ?_
    refine c_region _ rfl ?_
    refine l_q rfl (q_move rfl rfl) rfl rfl ?_
    refine l_q rfl (q_geq rfl rfl rfl) rfl rfl ?_
    refine l_q rfl (q_move rfl rfl) rfl rfl ?_
    refine Pre.setB (t := 12) (c := true) rfl (decide_eq_true (by omega)) ?_
    refine l_q rfl (q_move rfl rfl) rfl rfl ?_
    refine l_q rfl (q_nilCheck rfl rfl) rfl rfl ?_
    refine l_q rfl (q_fieldAddr rfl Try.underlying100 rfl Try.sizeOf98 rfl rfl) rfl rfl ?_
    refine l_q rfl (q_loadC rfl Try.isAgg98 rfl (fun _ h => h.at 0 rfl) rfl) rfl rfl ?_
    refine l_q rfl (q_lenV rfl Try.underlying98 rfl (fun _ h => h.rd 2 rfl)) rfl rfl ?_
    refine l_q rfl (q_eql rfl rfl rfl) rfl rfl ?_
    refine l_q rfl (q_move rfl rfl) rfl rfl ?_
    refine list_cases M.line (fun hl => ?_) (fun q r hl => ?_)
    · have h0 : M.line.length = 0 := by rw [hl]; rfl
      refine Pre.setB (t := 19) (c := true) rfl (decide_eq_true (by omega)) ?_
      refine l_not rfl rfl rfl ?_
      refine l_not rfl rfl rfl ?_
      refine l_not rfl rfl rfl ?_
      refine l_not rfl rfl rfl ?_
      refine l_not rfl rfl rfl ?_
      refine l_not rfl rfl rfl ?_
      refine l_not rfl rfl rfl ?_
      refine l_not rfl rfl rfl ?_
      refine l_not rfl rfl rfl ?_
      refine l_q rfl (q_pick_t rfl rfl rfl) rfl rfl ?_
      refine l_q rfl (q_pick_t rfl rfl rfl) rfl rfl ?_
      refine l_nil ?_
      refine k_then ?_
      refine c_true rfl ?_
      refine c_seq ?_
      refine c_region _ rfl ?_
      refine l_q rfl (q_move rfl rfl) rfl rfl ?_
      refine l_q rfl (q_move rfl rfl) rfl rfl ?_
      refine l_q rfl (q_nilCheck rfl rfl) rfl rfl ?_
      refine l_q rfl (q_fieldAddr rfl Try.underlying100 rfl Try.sizeOf98 rfl rfl) rfl rfl ?_
      refine l_q rfl (q_loadC rfl Try.isAgg98 rfl (fun _ h => h.at 0 rfl) rfl) rfl rfl ?_
      refine l_q rfl (q_move rfl rfl) rfl rfl ?_
      have htk := takes_yes1 (t := t) hl hfr
      refine l_e rfl ?_
      refine e_call_01 (rleave_spec M.line t (by omega)) rfl rfl rfl Try.call88 rfl (fun _ h => h.rd 2 rfl) ?_
      intro v _
      refine row_eq (show _ = (M.leave t).line from (leave_line_eq hO t).symm) ?_
      refine l_q rfl (q_nilCheck rfl rfl) rfl rfl ?_
      refine l_q rfl (q_fieldAddr rfl Try.underlying100 rfl Try.sizeOf98 rfl rfl) rfl rfl ?_
      refine Pre.fact (fun _ h => rd_sv (h.rd 0 rfl)) ?_
      rintro ⟨sv, rfl⟩
      refine pull1 ?_
      refine l_e rfl ?_
      refine e_store rfl rfl Try.sizeOf98 rfl rfl rfl (Nat.le_of_ble_eq_true rfl) ?_
      refine cells_eq (show _ = RS.cells { R with vL := sv.v } (M.leave t) from rfl) ?_
      refine l_nil ?_
      refine k_then ?_
      refine c_seq ?_
      refine c_region _ rfl ?_
      refine l_q rfl (q_move rfl rfl) rfl rfl ?_
      refine l_q rfl (q_assign rfl rfl) rfl rfl ?_
      refine l_nil ?_
      refine k_then ?_
      refine c_ret ?_
      refine k_then_ret ?_
      refine pull3 ?_
      refine drop0 ?_
      refine pull3 ?_
      refine pull2 ?_
      refine pull3 ?_
      refine pull3 ?_
      refine r_one rfl rfl ?_
      exact fun _ h => ⟨sv.v, by rw [htk]; rfl, trivial, by rw [tk_some htk]; exact h⟩
    · have h0 : 0 < M.line.length := by rw [hl]; simp
      have hl0 : M.line[0]? = some q := by rw [hl]; rfl
      refine Pre.setB (t := 19) (c := false) rfl (decide_eq_false (by omega)) ?_
      refine l_q rfl (q_move rfl rfl) rfl rfl ?_
      refine l_q rfl (q_nilCheck rfl rfl) rfl rfl ?_
      refine l_q rfl (q_fieldAddr rfl Try.underlying100 rfl Try.sizeOf98 rfl rfl) rfl rfl ?_
      refine l_q rfl (q_loadC rfl Try.isAgg98 rfl (fun _ h => h.at 0 rfl) rfl) rfl rfl ?_
      refine l_q rfl (q_indexV 0 rfl Try.underlying98 Try.sizeOf138 rfl (fun _ h => h.rd 2 rfl) rfl rfl (by omega)) rfl rfl ?_
      refine l_q rfl (q_fieldAddr rfl Try.underlying138 rfl Try.sizeOf3 rfl rfl) rfl rfl ?_
      refine l_q rfl (q_loadV 0 0 rfl Try.isAgg3 rfl rfl (fun _ h => h.rd 2 rfl) hl0 rfl) rfl rfl ?_
      refine l_q rfl (q_move rfl rfl) rfl rfl ?_
      refine l_q rfl (q_eql rfl rfl rfl) rfl rfl ?_
      refine l_q rfl (q_pick_f rfl rfl rfl) rfl rfl ?_
      refine l_q rfl (q_pick_t rfl rfl rfl) rfl rfl ?_
      refine l_nil ?_
      refine k_then ?_
      refine Pre.caseB 30 rfl (fun hq => ?_) (fun hq => ?_)
      · try simp only [decide_eq_true_eq, decide_eq_false_iff_not, Bool.not_eq_true', Bool.not_eq_false'] at hq
        have htk := takes_yes2 hl hq hfr
        refine c_true rfl ?_
        refine c_seq ?_
        refine c_region _ rfl ?_
        refine l_q rfl (q_move rfl rfl) rfl rfl ?_
        refine l_q rfl (q_move rfl rfl) rfl rfl ?_
        refine l_q rfl (q_nilCheck rfl rfl) rfl rfl ?_
        refine l_q rfl (q_fieldAddr rfl Try.underlying100 rfl Try.sizeOf98 rfl rfl) rfl rfl ?_
        refine l_q rfl (q_loadC rfl Try.isAgg98 rfl (fun _ h => h.at 0 rfl) rfl) rfl rfl ?_
        refine l_q rfl (q_move rfl rfl) rfl rfl ?_
        refine l_e rfl ?_
        refine e_call_01 (rleave_spec M.line t (by omega)) rfl rfl rfl Try.call88 rfl (fun _ h => h.rd 2 rfl) ?_
        intro v _
        refine row_eq (show _ = (M.leave t).line from (leave_line_eq hO t).symm) ?_
        refine l_q rfl (q_nilCheck rfl rfl) rfl rfl ?_
        refine l_q rfl (q_fieldAddr rfl Try.underlying100 rfl Try.sizeOf98 rfl rfl) rfl rfl ?_
        refine Pre.fact (fun _ h => rd_sv (h.rd 0 rfl)) ?_
        rintro ⟨sv, rfl⟩
        refine pull1 ?_
        refine l_e rfl ?_
        refine e_store rfl rfl Try.sizeOf98 rfl rfl rfl (Nat.le_of_ble_eq_true rfl) ?_
        refine cells_eq (show _ = RS.cells { R with vL := sv.v } (M.leave t) from rfl) ?_
        refine l_nil ?_
        refine k_then ?_
        refine c_seq ?_
        refine c_region _ rfl ?_
        refine l_q rfl (q_move rfl rfl) rfl rfl ?_
        refine l_q rfl (q_assign rfl rfl) rfl rfl ?_
        refine l_nil ?_
        refine k_then ?_
        refine c_ret ?_
        refine k_then_ret ?_
        refine pull3 ?_
        refine drop0 ?_
        refine pull3 ?_
        refine pull2 ?_
        refine pull3 ?_
        refine pull3 ?_
        refine r_one rfl rfl ?_
        exact fun _ h => ⟨sv.v, by rw [htk]; rfl, trivial, by rw [tk_some htk]; exact h⟩
      · try simp only [decide_eq_true_eq, decide_eq_false_iff_not, Bool.not_eq_true', Bool.not_eq_false'] at hq
        have htk := takes_none2 hl hq
        refine c_false rfl ?_
        refine c_skip ?_
        refine k_then ?_
        refine c_seq ?_
        refine c_seq ?_
        refine c_region _ rfl ?_
        refine l_q rfl (q_move rfl rfl) rfl rfl ?_
        refine l_q rfl (q_nilCheck rfl rfl) rfl rfl ?_
        refine l_q rfl (q_fieldAddr rfl Try.underlying100 rfl Try.sizeOf98 rfl rfl) rfl rfl ?_
        refine l_q rfl (q_loadC rfl Try.isAgg98 rfl (fun _ h => h.at 0 rfl) rfl) rfl rfl ?_
        refine l_q rfl (q_move rfl rfl) rfl rfl ?_
        refine l_e rfl ?_
        refine e_call_00 (rat_spec M.line t (by omega)) rfl rfl rfl Try.call86 rfl (fun _ h => h.rd 2 rfl) ?_
        intro _ _
        refine l_q rfl (q_lss rfl rfl rfl) rfl rfl ?_
        refine l_nil ?_
        refine k_then ?_
        refine opt_cases (M.stand t) (fun hs => ?_) (fun j hs => ?_)
        · refine Pre.setB (t := 47) (c := true) rfl (by rw [show fst1 (isT t) M.line = none from hs]; rfl) ?_
          refine c_true rfl ?_
          refine c_region _ rfl ?_
          refine l_q rfl (q_move rfl rfl) rfl rfl ?_
          refine l_q rfl (q_move rfl rfl) rfl rfl ?_
          refine l_q rfl (q_nilCheck rfl rfl) rfl rfl ?_
          refine l_q rfl (q_fieldAddr rfl Try.underlying100 rfl Try.sizeOf98 rfl rfl) rfl rfl ?_
          refine l_q rfl (q_loadC rfl Try.isAgg98 rfl (fun _ h => h.at 0 rfl) rfl) rfl rfl ?_
          refine l_q rfl (q_move rfl rfl) rfl rfl ?_
          refine l_q rfl (q_move rfl rfl) rfl rfl ?_
          have hlv := ask_none (b := b) hs
          refine l_q rfl (q_build (encP.f (t, b)) rfl rfl (fun w => by kernel_rfl)) rfl rfl ?_
          refine l_e rfl ?_
          refine e_buildSliceV (sz := 2) [.tmp 55] rfl rfl rfl rfl rfl Try.underlying98 Try.sizeOf138 rfl Try.zeroValue138 rfl ?_
          intro b2
          refine pull3 ?_
          refine l_e rfl ?_
          refine e_append rfl rfl rfl Try.underlying98 Try.underlying98 info138 rfl rfl rfl rfl rfl (fun _ h => lit_rd (h.at 1 rfl) encP [(t, b)] rfl rfl) (by simp only [byt138, List.length_append, List.length_cons, List.length_nil]; omega) (by simp only [List.length_append, List.length_cons, List.length_nil]; omega) ?_
          intro v
          refine row_eq (show _ = (M.tk t b).line from by rw [tk_none htk, hlv]) ?_
          refine pull1 ?_
          refine drop0 ?_
          refine l_q rfl (q_nilCheck rfl rfl) rfl rfl ?_
          refine l_q rfl (q_fieldAddr rfl Try.underlying100 rfl Try.sizeOf98 rfl rfl) rfl rfl ?_
          refine Pre.fact (fun _ h => rd_sv (h.rd 0 rfl)) ?_
          rintro ⟨sv, rfl⟩
          refine pull1 ?_
          refine l_e rfl ?_
          refine e_store rfl rfl Try.sizeOf98 rfl rfl rfl (Nat.le_of_ble_eq_true rfl) ?_
          refine cells_eq (show _ = RS.cells { R with vL := sv.v } (M.tk t b) from by rw [tk_none htk]; rfl) ?_
          refine l_nil ?_
          refine k_then ?_
          refine c_seq ?_
          refine c_region _ rfl ?_
          refine l_q rfl (q_assign rfl rfl) rfl rfl ?_
          refine l_nil ?_
          refine k_then ?_
          refine c_ret ?_
          refine pull3 ?_
          refine pull2 ?_
          refine pull3 ?_
          refine pull3 ?_
          refine r_one rfl rfl ?_
          exact fun _ h => ⟨sv.v, by rw [htk]; rfl, trivial, by rw [tk_none htk] at h ⊢; exact h⟩
        · refine Pre.setB (t := 47) (c := false) rfl (by rw [show fst1 (isT t) M.line = some j from hs]; exact decide_eq_false (by simp [io])) ?_
          refine c_false rfl ?_
          refine c_skip ?_
          refine k_then ?_
          refine c_seq ?_
          refine c_region _ rfl ?_
          refine l_q rfl (q_assign rfl rfl) rfl rfl ?_
          refine l_nil ?_
          refine k_then ?_
          refine c_ret ?_
          have hlv := ask_some (b := b) hs
          refine r_one rfl rfl ?_
          exact fun _ h => ⟨R.vL, by rw [htk]; rfl, trivial, by rw [tk_none htk]; show St _ _ (cellsE br 100 (RS.cells R M) :: rowE R.vF 102 FC.encR R.fl :: rowE R.vL 138 encP (M.ask t b).line :: rowE R.vO 138 encP M.loads :: []) _; rw [hlv]; exact h⟩
set_option maxRecDepth 100000 in
set_option maxHeartbeats 1000000 in
theorem rpin_spec {br : Nat} {R : RS} {M : Mo} {B : Nat} (hR : RelR R M) (hO : M.Ok B) (t b : Int) : Con Try.prog 52 [.pointer (some ⟨br, 0, none⟩), .int .i64 t, .int .i64 b] (fun _ => True) (R.H br M) (fun R' : RS => .int .i64 (M.pin t b).1) (fun R' => RelR R' (M.pin t b).2 ∧ ∀ G, NIn G R.fl → NIn G R'.fl) (fun R' => R'.H br (M.pin t b).2) := by
  intro w hE hH
  refine enter (n := 119) (vs := [.pointer (some ⟨br, 0, none⟩), .int .i64 t, .int .i64 b]) (St w (dom (R.H br M)) (cellsE br 100 (RS.cells R M) :: rowE (R).vF 102 FC.encR (R).fl :: rowE (R).vL 138 encP (Mo.line M) :: rowE (R).vO 138 encP (Mo.loads M) :: [])) Try.func52 rfl rfl rfl (St.init hH) ?_
  refine c_seq ?_
  have hfl := hR.len
  have h64 := hO.n64
  have hB9 := hO.B9
  have hlB := hO.lB
  have hlL := hO.ll
  refine c_region _ rfl ?_
  refine l_q rfl (q_assign rfl rfl) rfl rfl ?_
  refine l_nil ?_
  refine k_then ?_
  refine c_seq ?_
  refine c_seq ?_
  refine c_region _ rfl ?_
  refine l_q rfl (q_move rfl rfl) rfl rfl ?_
  refine l_e rfl ?_
  refine e_call_00 (rtask_spec t) rfl rfl rfl Try.call84 rfl (fun _ _ => trivial) ?_
  intro _ _
  refine l_q rfl (q_not rfl rfl) rfl rfl ?_
  refine l_q rfl (q_move rfl rfl) rfl rfl ?_
  refine Pre.caseB 12 rfl (fun h1 => ?_) (fun h1 => ?_)
  · try simp only [Bool.not_eq_true', Bool.not_eq_false'] at h1
    have hu := pin_no (M := M) (t := t) (b := b) (by rw [mayW_t h1]; simp)
    refine l_not rfl rfl rfl ?_
    refine l_not rfl rfl rfl ?_
    refine l_not rfl rfl rfl ?_
    refine l_q rfl (q_pick_t rfl rfl rfl) rfl rfl ?_
    refine l_q rfl (q_move rfl rfl) rfl rfl ?_
    refine l_not rfl rfl rfl ?_
    refine l_not rfl rfl rfl ?_
    refine l_not rfl rfl rfl ?_
    refine l_not rfl rfl rfl ?_
    refine l_not rfl rfl rfl ?_
    refine l_not rfl rfl rfl ?_
    refine l_not rfl rfl rfl ?_
    refine l_q rfl (q_pick_t rfl rfl rfl) rfl rfl ?_
    refine l_nil ?_
    refine k_then ?_
    refine c_true rfl ?_
    refine c_seq ?_
    refine c_region _ rfl ?_
    refine l_q rfl (q_assign rfl rfl) rfl rfl ?_
    refine l_nil ?_
    refine k_then ?_
    refine c_ret ?_
    refine k_then_ret ?_
    refine r_one rfl rfl ?_
    exact fun _ h => ⟨R, by rw [hu], ⟨by rw [hu]; exact hR, fun _ h => h⟩, by rw [hu]; exact h⟩
  · try simp only [Bool.not_eq_true', Bool.not_eq_false'] at h1
    refine l_q rfl (q_move rfl rfl) rfl rfl ?_
    refine l_e rfl ?_
    refine e_call_00 (rblock_spec b) rfl rfl rfl Try.call85 rfl (fun _ _ => trivial) ?_
    intro _ _
    refine l_q rfl (q_not rfl rfl) rfl rfl ?_
    refine l_q rfl (q_pick_f rfl rfl rfl) rfl rfl ?_
    refine l_q rfl (q_move rfl rfl) rfl rfl ?_
    refine Pre.caseB 17 rfl (fun hb => ?_) (fun hb => ?_)
    · try simp only [Bool.not_eq_true', Bool.not_eq_false'] at hb
      have hu := pin_no (M := M) (t := t) (b := b) (by rw [hb]; rfl)
      refine l_not rfl rfl rfl ?_
      refine l_not rfl rfl rfl ?_
      refine l_not rfl rfl rfl ?_
      refine l_not rfl rfl rfl ?_
      refine l_not rfl rfl rfl ?_
      refine l_not rfl rfl rfl ?_
      refine l_not rfl rfl rfl ?_
      refine l_q rfl (q_pick_t rfl rfl rfl) rfl rfl ?_
      refine l_nil ?_
      refine k_then ?_
      refine c_true rfl ?_
      refine c_seq ?_
      refine c_region _ rfl ?_
      refine l_q rfl (q_assign rfl rfl) rfl rfl ?_
      refine l_nil ?_
      refine k_then ?_
      refine c_ret ?_
      refine k_then_ret ?_
      refine r_one rfl rfl ?_
      exact fun _ h => ⟨R, by rw [hu], ⟨by rw [hu]; exact hR, fun _ h => h⟩, by rw [hu]; exact h⟩
    · try simp only [Bool.not_eq_true', Bool.not_eq_false'] at hb
      refine l_q rfl (q_move rfl rfl) rfl rfl ?_
      refine l_q rfl (q_nilCheck rfl rfl) rfl rfl ?_
      refine l_q rfl (q_fieldAddr rfl Try.underlying100 rfl Try.sizeOf98 rfl rfl) rfl rfl ?_
      refine l_q rfl (q_loadC rfl Try.isAgg98 rfl (fun _ h => h.at 0 rfl) rfl) rfl rfl ?_
      refine l_q rfl (q_move rfl rfl) rfl rfl ?_
      refine l_e rfl ?_
      refine e_call_00 (rat_spec M.loads t (by omega)) rfl rfl rfl Try.call86 rfl (fun _ h => h.rd 3 rfl) ?_
      intro _ _
      refine l_q rfl (q_geq rfl rfl rfl) rfl rfl ?_
      refine l_q rfl (q_pick_f rfl rfl rfl) rfl rfl ?_
      refine l_nil ?_
      refine k_then ?_
      refine Pre.caseB 25 rfl (fun h2 => ?_) (fun h2 => ?_)
      · try simp only [io_ge, waits_at, decide_eq_true_eq] at h2
        have hu := pin_no (M := M) (t := t) (b := b) (by rw [mayW_w h2]; simp)
        refine c_true rfl ?_
        refine c_seq ?_
        refine c_region _ rfl ?_
        refine l_q rfl (q_assign rfl rfl) rfl rfl ?_
        refine l_nil ?_
        refine k_then ?_
        refine c_ret ?_
        refine k_then_ret ?_
        refine r_one rfl rfl ?_
        exact fun _ h => ⟨R, by rw [hu], ⟨by rw [hu]; exact hR, fun _ h => h⟩, by rw [hu]; exact h⟩
      · try simp only [io_ge, waits_at, decide_eq_true_eq] at h2
        refine c_false rfl ?_
        refine c_skip ?_
        refine k_then ?_
        refine c_seq ?_
        refine c_region _ rfl ?_
        refine l_q rfl (q_move rfl rfl) rfl rfl ?_
        refine l_q rfl (q_nilCheck rfl rfl) rfl rfl ?_
        refine l_q rfl (q_fieldAddr rfl Try.underlying100 rfl Try.sizeOf98 rfl rfl) rfl rfl ?_
        refine l_q rfl (q_loadC rfl Try.isAgg98 rfl (fun _ h => h.at 0 rfl) rfl) rfl rfl ?_
        refine l_q rfl (q_move rfl rfl) rfl rfl ?_
        refine l_e rfl ?_
        refine e_call_00 (rat_spec M.line t (by omega)) rfl rfl rfl Try.call86 rfl (fun _ h => h.rd 2 rfl) ?_
        intro _ _
        refine l_q rfl (q_assign rfl rfl) rfl rfl ?_
        refine l_nil ?_
        refine k_then ?_
        refine c_seq ?_
        refine c_seq ?_
        refine opt_cases (M.stand t) (fun hs => ?_) (fun k hs => ?_)
        · refine Pre.setV (t := 7) (c := .int .i64 (-1)) rfl (by rw [show fst1 (isT t) M.line = none from hs]; rfl) ?_
          refine c_region _ rfl ?_
          refine l_q rfl (q_move rfl rfl) rfl rfl ?_
          refine l_q rfl (q_geq rfl rfl rfl) rfl rfl ?_
          refine l_q rfl (q_move rfl rfl) rfl rfl ?_
          refine Pre.setB (t := 34) (c := false) rfl (rfl) ?_
          refine l_not rfl rfl rfl ?_
          refine l_not rfl rfl rfl ?_
          refine l_not rfl rfl rfl ?_
          refine l_not rfl rfl rfl ?_
          refine l_not rfl rfl rfl ?_
          refine l_not rfl rfl rfl ?_
          refine l_not rfl rfl rfl ?_
          refine l_not rfl rfl rfl ?_
          refine l_not rfl rfl rfl ?_
          refine l_not rfl rfl rfl ?_
          refine l_q rfl (q_pick_f rfl rfl rfl) rfl rfl ?_
          refine l_nil ?_
          refine k_then ?_
          refine c_false rfl ?_
          refine c_skip ?_
          refine k_then ?_
          refine c_seq ?_
          refine c_region _ rfl ?_
          refine l_q rfl (q_move rfl rfl) rfl rfl ?_
          refine l_q rfl (q_move rfl rfl) rfl rfl ?_
          have hm := mayW_no (b := b) h1 h2 hs
          have hbm : (bkB b && M.mayW t b) = true := by rw [hb, hm]; rfl
          refine l_e rfl ?_
          refine e_call_00 (rfind_spec hR hO b) rfl rfl rfl Try.call87 rfl (fun _ h => RC.ofm (R := R) (M := M) h (fun e he => he)) ?_
          intro _ _
          refine l_q rfl (q_assign rfl rfl) rfl rfl ?_
          refine l_nil ?_
          refine k_then ?_
          refine c_seq ?_
          refine c_seq ?_
          refine opt_cases (M.find b) (fun hf => ?_) (fun i hf => ?_)
          · refine Pre.setV (t := 8) (c := .int .i64 (-1)) rfl (by rw [hf]; rfl) ?_
            refine c_region _ rfl ?_
            refine l_q rfl (q_move rfl rfl) rfl rfl ?_
            refine l_q rfl (q_geq rfl rfl rfl) rfl rfl ?_
            refine l_nil ?_
            refine k_then ?_
            refine Pre.setB (t := 50) (c := false) rfl (rfl) ?_
            refine c_false rfl ?_
            refine c_skip ?_
            refine k_then ?_
            refine c_seq ?_
            refine c_region _ rfl ?_
            refine l_q rfl (q_move rfl rfl) rfl rfl ?_
            refine l_q rfl (q_move rfl rfl) rfl rfl ?_
            refine l_q rfl (q_move rfl rfl) rfl rfl ?_
            refine l_e rfl ?_
            refine e_callH [] (rtakes_spec hR hO t b) rfl rfl rfl Try.call89 rfl (fun _ _ => trivial) ?_
            intro v _
            refine Pre.world (St _ _ (cellsE br 100 (RS.cells { R with vL := v } (M.tk t b)) :: rowE ({ R with vL := v }).vF 102 FC.encR ({ R with vL := v }).fl :: rowE ({ R with vL := v }).vL 138 encP (Mo.line (M.tk t b)) :: rowE ({ R with vL := v }).vO 138 encP (Mo.loads (M.tk t b)) :: [])) (fun _ h => h) ?_
            refine l_q rfl (q_assign rfl rfl) rfl rfl ?_
            refine l_nil ?_
            refine k_then ?_
            refine c_seq ?_
            refine c_seq ?_
            refine opt_cases (M.takes t) (fun hk => ?_) (fun k hk => ?_)
            · have hu := pin_queue hbm hf hk
              rw [tk_none hk]
              refine Pre.setV (t := 8) (c := .int .i64 (-1)) rfl (by rw [hk]; rfl) ?_
              refine c_region _ rfl ?_
              refine l_q rfl (q_move rfl rfl) rfl rfl ?_
              refine l_q rfl (q_lss rfl rfl rfl) rfl rfl ?_
              refine l_nil ?_
              refine k_then ?_
              refine Pre.setB (t := 109) (c := true) rfl (rfl) ?_
              refine c_true rfl ?_
              refine c_seq ?_
              refine c_region _ rfl ?_
              refine l_q rfl (q_assign rfl rfl) rfl rfl ?_
              refine l_nil ?_
              refine k_then ?_
              refine c_ret ?_
              refine k_then_ret ?_
              refine r_one rfl rfl ?_
              exact fun _ h => ⟨{ R with vL := v }, by rw [hu], ⟨by rw [hu]; exact hR, fun _ h => h⟩, by rw [hu]; exact h⟩
            · have hu := pin_read hbm hf hk
              rw [tk_some hk]
              obtain ⟨y0, hy0, hys, hya⟩ := takes_at hk
              obtain ⟨f0, hfk, hfy⟩ := hR.get hy0
              have hkl := (List.getElem?_eq_some_iff.1 hfk).1
              refine Pre.setV (t := 8) (c := .int .i64 (k : Int)) rfl (by rw [hk]; rfl) ?_
              refine c_region _ rfl ?_
              refine l_q rfl (q_move rfl rfl) rfl rfl ?_
              refine l_q rfl (q_lss rfl rfl rfl) rfl rfl ?_
              refine l_nil ?_
              refine k_then ?_
              refine Pre.setB (t := 109) (c := false) rfl (decide_eq_false (by omega)) ?_
              refine c_false rfl ?_
              refine c_skip ?_
              refine k_then ?_
              refine c_seq ?_
              refine c_region _ rfl ?_
              refine l_q rfl (q_move rfl rfl) rfl rfl ?_
              refine l_q rfl (q_nilCheck rfl rfl) rfl rfl ?_
              refine l_q rfl (q_fieldAddr rfl Try.underlying100 rfl Try.sizeOf97 rfl rfl) rfl rfl ?_
              refine l_q rfl (q_loadC rfl Try.isAgg97 rfl (fun _ h => h.at 0 rfl) rfl) rfl rfl ?_
              refine l_q rfl (q_move rfl rfl) rfl rfl ?_
              refine l_q rfl (q_move rfl rfl) rfl rfl ?_
              refine l_q rfl (q_move rfl rfl) rfl rfl ?_
              refine l_q rfl (q_build ((⟨1, b, t, 1, true, false, nv0⟩ : FC).cR) rfl rfl (fun w => by kernel_rfl)) rfl rfl ?_
              refine l_q rfl (q_indexV k rfl Try.underlying97 Try.sizeOf102 rfl (fun _ h => h.rd 1 rfl) rfl rfl (by omega)) rfl rfl ?_
              refine pull1 ?_
              refine l_e rfl ?_
              refine e_storeVAgg k (⟨1, b, t, 1, true, false, nv0⟩ : FC) rfl rfl Try.sizeOf102 rfl rfl rfl rfl (by omega) ?_
              refine l_nil ?_
              refine k_then ?_
              refine c_seq ?_
              refine c_region _ rfl ?_
              refine l_q rfl (q_assign rfl rfl) rfl rfl ?_
              refine l_nil ?_
              refine k_then ?_
              refine c_ret ?_
              refine pull3 ?_
              refine pull3 ?_
              refine pull2 ?_
              refine pull3 ?_
              refine r_one rfl rfl ?_
              exact fun _ h => ⟨{ R with vL := v, fl := R.fl.set k (⟨1, b, t, 1, true, false, nv0⟩ : FC) }, by rw [hu], ⟨by rw [hu]; exact (show RelR { R with vL := v } (M.leave t) from hR).put rfl, fun _ hG => hG.set (.inl ⟨rfl, rfl⟩)⟩, by rw [hu]; exact h⟩
          · obtain ⟨y, hy, hyb, hys, hya⟩ := find_at hf
            obtain ⟨f, hfi, hfy⟩ := hR.get hy
            have hlt := (List.getElem?_eq_some_iff.1 hfi).1
            rw [← hfy] at hya hys hyb hy
            have hu := pin_at hbm hf hya
            have hpb := hO.pins _ (List.mem_of_getElem? hy)
            have hpb1 : 0 ≤ f.pins := hpb.1
            have hpb2 : f.pins ≤ (B : Int) := hpb.2
            refine Pre.setV (t := 8) (c := .int .i64 (i : Int)) rfl (by rw [hf]; rfl) ?_
            refine c_region _ rfl ?_
            refine l_q rfl (q_move rfl rfl) rfl rfl ?_
            refine l_q rfl (q_geq rfl rfl rfl) rfl rfl ?_
            refine l_nil ?_
            refine k_then ?_
            refine Pre.setB (t := 50) (c := true) rfl (decide_eq_true (by omega)) ?_
            refine c_true rfl ?_
            refine c_seq ?_
            refine c_draw [(0, some true), (1, some true), (2, some true), (3, some true), (4, some true), (5, some true), (6, some true), (7, some true), (8, some true), (9, some true), (10, some true), (11, some true), (12, some true), (13, some true), (14, none), (15, none), (16, none)] [14, 15, 16] [(_, some true), (_, some true), (_, some true), (_, some true), (_, some true), (_, some true), (_, some true), (_, some true), (_, some true), (_, some true), (_, some true), (_, some true), (_, some true), (_, some true), (_, none), (_, none), (_, none)] _ (blind_then (blind_then blind_body)) rfl (by kernel_rfl) (by kernel_rfl) rfl rfl rfl (by kernel_rfl) St.drawn (fun _ h => h) ?_
            refine d_q rfl (q_move rfl rfl) rfl rfl ?_
            refine d_q rfl (q_nilCheck rfl rfl) rfl rfl ?_
            refine d_q rfl (q_fieldAddr rfl Try.underlying100 rfl Try.sizeOf97 rfl rfl) rfl rfl ?_
            refine d_q rfl (q_loadC rfl Try.isAgg97 rfl (fun _ h => h.at 0 rfl) rfl) rfl rfl ?_
            refine d_q rfl (q_move rfl rfl) rfl rfl ?_
            refine d_q rfl (q_move rfl rfl) rfl rfl ?_
            refine d_q rfl (q_nilCheck rfl rfl) rfl rfl ?_
            refine d_q rfl (q_fieldAddr rfl Try.underlying100 rfl Try.sizeOf97 rfl rfl) rfl rfl ?_
            refine d_q rfl (q_loadC rfl Try.isAgg97 rfl (fun _ h => h.at 0 rfl) rfl) rfl rfl ?_
            refine d_q rfl (q_move rfl rfl) rfl rfl ?_
            refine d_q rfl (q_indexV i rfl Try.underlying97 Try.sizeOf102 rfl (fun _ h => h.rd 1 rfl) rfl rfl (by omega)) rfl rfl ?_
            refine d_q rfl (q_fieldAddr rfl Try.underlying102 rfl Try.sizeOf3 rfl rfl) rfl rfl ?_
            refine d_q rfl (q_loadV i 2 rfl Try.isAgg3 rfl rfl (fun _ h => h.rd 1 rfl) hfi rfl) rfl rfl ?_
            refine d_q rfl (q_add64 rfl rfl rfl (by omega)) rfl rfl ?_
            refine d_t rfl ?_
            refine e_q rfl rfl (q_indexV i rfl Try.underlying97 Try.sizeOf102 rfl (fun _ h => h.rd 1 rfl) rfl rfl (by omega)) ?_
            refine d_t rfl ?_
            refine e_q rfl rfl (q_fieldAddr rfl Try.underlying102 rfl Try.sizeOf3 rfl rfl) ?_
            refine pull1 ?_
            refine d_t rfl ?_
            refine e_storeV i 2 (({ f with pins := f.pins + 1 } : FC)) rfl rfl Try.sizeOf3 rfl rfl rfl hfi (by decide) rfl ?_
            refine d_nil ?_
            refine k_then ?_
            refine c_seq ?_
            have hf2 : (R.fl.set i ({ f with pins := f.pins + 1 } : FC))[i]? = some ({ f with pins := f.pins + 1 } : FC) := List.getElem?_set_self hlt
            have hl2 : (R.fl.set i ({ f with pins := f.pins + 1 } : FC)).length = R.fl.length := List.length_set
            refine c_region _ rfl ?_
            refine l_q rfl (q_move rfl rfl) rfl rfl ?_
            refine l_q rfl (q_nilCheck rfl rfl) rfl rfl ?_
            refine l_q rfl (q_fieldAddr rfl Try.underlying100 rfl Try.sizeOf97 rfl rfl) rfl rfl ?_
            refine l_q rfl (q_loadC rfl Try.isAgg97 rfl (fun _ h => h.at 1 rfl) rfl) rfl rfl ?_
            refine l_q rfl (q_move rfl rfl) rfl rfl ?_
            refine l_q rfl (q_indexV i rfl Try.underlying97 Try.sizeOf102 rfl (fun _ h => h.rd 0 rfl) rfl rfl (by omega)) rfl rfl ?_
            refine l_q rfl (q_fieldAddr rfl Try.underlying102 rfl Try.sizeOf4 rfl rfl) rfl rfl ?_
            refine l_e rfl ?_
            refine e_storeV i 3 (({ f with pins := f.pins + 1, ref := true } : FC)) rfl rfl Try.sizeOf4 rfl rfl rfl hf2 (by decide) rfl ?_
            refine l_nil ?_
            refine k_then ?_
            refine c_seq ?_
            refine row_eq (List.set_set ..) ?_
            have hf3 : (R.fl.set i ({ f with pins := f.pins + 1, ref := true } : FC))[i]? = some ({ f with pins := f.pins + 1, ref := true } : FC) := List.getElem?_set_self hlt
            have hl3 : (R.fl.set i ({ f with pins := f.pins + 1, ref := true } : FC)).length = R.fl.length := List.length_set
            refine c_region _ rfl ?_
            refine l_q rfl (q_move rfl rfl) rfl rfl ?_
            refine l_q rfl (q_move rfl rfl) rfl rfl ?_
            refine l_q rfl (q_nilCheck rfl rfl) rfl rfl ?_
            refine l_q rfl (q_fieldAddr rfl Try.underlying100 rfl Try.sizeOf98 rfl rfl) rfl rfl ?_
            refine l_q rfl (q_loadC rfl Try.isAgg98 rfl (fun _ h => h.at 1 rfl) rfl) rfl rfl ?_
            refine l_q rfl (q_move rfl rfl) rfl rfl ?_
            refine l_e rfl ?_
            refine e_call_01 (rleave_spec M.line t (by omega)) rfl rfl rfl Try.call88 rfl (fun _ h => h.rd 2 rfl) ?_
            intro v _
            refine row_eq (show _ = (M.leave t).line from (leave_line_eq hO t).symm) ?_
            refine l_q rfl (q_nilCheck rfl rfl) rfl rfl ?_
            refine l_q rfl (q_fieldAddr rfl Try.underlying100 rfl Try.sizeOf98 rfl rfl) rfl rfl ?_
            refine Pre.fact (fun _ h => rd_sv (h.rd 0 rfl)) ?_
            rintro ⟨sv, rfl⟩
            refine pull3 ?_
            refine drop0 ?_
            refine pull2 ?_
            refine l_e rfl ?_
            refine e_store rfl rfl Try.sizeOf98 rfl rfl rfl (Nat.le_of_ble_eq_true rfl) ?_
            refine cells_eq (show _ = RS.cells { R with vL := sv.v, fl := R.fl.set i ({ f with pins := f.pins + 1, ref := true } : FC) } (Mo.leave (M.put i { vw f with pins := (vw f).pins + 1, ref := true }) t) from rfl) ?_
            refine l_nil ?_
            refine k_then ?_
            refine c_seq ?_
            refine c_seq ?_
            refine c_region _ rfl ?_
            refine l_q rfl (q_move rfl rfl) rfl rfl ?_
            refine l_q rfl (q_nilCheck rfl rfl) rfl rfl ?_
            refine l_q rfl (q_fieldAddr rfl Try.underlying100 rfl Try.sizeOf97 rfl rfl) rfl rfl ?_
            refine l_q rfl (q_loadC rfl Try.isAgg97 rfl (fun _ h => h.at 0 rfl) rfl) rfl rfl ?_
            refine l_q rfl (q_move rfl rfl) rfl rfl ?_
            refine l_q rfl (q_indexV i rfl Try.underlying97 Try.sizeOf102 rfl (fun _ h => h.rd 2 rfl) rfl rfl (by omega)) rfl rfl ?_
            refine l_q rfl (q_fieldAddr rfl Try.underlying102 rfl Try.sizeOf3 rfl rfl) rfl rfl ?_
            refine l_q rfl (q_loadV i 0 rfl Try.isAgg3 rfl rfl (fun _ h => h.rd 2 rfl) hf3 rfl) rfl rfl ?_
            refine l_q rfl (q_eql rfl rfl rfl) rfl rfl ?_
            refine l_nil ?_
            refine k_then ?_
            refine Pre.caseB 91 rfl (fun hs2 => ?_) (fun hs2 => ?_)
            · try simp only [decide_eq_true_eq, decide_eq_false_iff_not, Bool.not_eq_true', Bool.not_eq_false'] at hs2
              rw [if_pos (show (vw f).st = 2 from hs2)] at hu
              refine c_true rfl ?_
              refine c_seq ?_
              refine c_region _ rfl ?_
              refine l_q rfl (q_assign rfl rfl) rfl rfl ?_
              refine l_nil ?_
              refine k_then ?_
              refine c_ret ?_
              refine k_then_ret ?_
              refine k_then_ret ?_
              refine pull3 ?_
              refine pull2 ?_
              refine pull3 ?_
              refine pull3 ?_
              refine r_one rfl rfl ?_
              exact fun _ h => ⟨{ R with vL := sv.v, fl := R.fl.set i ({ f with pins := f.pins + 1, ref := true } : FC) }, by rw [hu], ⟨by rw [hu]; exact (hR.put (i := i) (f' := ({ f with pins := f.pins + 1, ref := true } : FC)) rfl), fun _ hG => hG.set_same hfi rfl⟩, by rw [hu]; exact h⟩
            · try simp only [decide_eq_true_eq, decide_eq_false_iff_not, Bool.not_eq_true', Bool.not_eq_false'] at hs2
              rw [if_neg (show ¬ (vw f).st = 2 from hs2)] at hu
              refine c_false rfl ?_
              refine c_skip ?_
              refine k_then ?_
              refine c_seq ?_
              refine c_region _ rfl ?_
              refine l_q rfl (q_move rfl rfl) rfl rfl ?_
              refine l_q rfl (q_move rfl rfl) rfl rfl ?_
              refine l_q rfl (q_nilCheck rfl rfl) rfl rfl ?_
              refine l_q rfl (q_fieldAddr rfl Try.underlying100 rfl Try.sizeOf98 rfl rfl) rfl rfl ?_
              refine l_q rfl (q_loadC rfl Try.isAgg98 rfl (fun _ h => h.at 0 rfl) rfl) rfl rfl ?_
              refine l_q rfl (q_move rfl rfl) rfl rfl ?_
              refine l_q rfl (q_move rfl rfl) rfl rfl ?_
              refine l_q rfl (q_build (encP.f (t, b)) rfl rfl (fun w => by kernel_rfl)) rfl rfl ?_
              refine l_e rfl ?_
              refine e_buildSliceV (sz := 2) [.tmp 99] rfl rfl rfl rfl rfl Try.underlying98 Try.sizeOf138 rfl Try.zeroValue138 rfl ?_
              intro b2
              refine pull4 ?_
              refine l_e rfl ?_
              refine e_append rfl rfl rfl Try.underlying98 Try.underlying98 info138 rfl rfl rfl rfl rfl (fun _ h => lit_rd (h.at 1 rfl) encP [(t, b)] rfl rfl) (by simp only [byt138, List.length_append, List.length_cons, List.length_nil]; omega) (by simp only [List.length_append, List.length_cons, List.length_nil]; omega) ?_
              intro v2
              refine pull1 ?_
              refine drop0 ?_
              refine l_q rfl (q_nilCheck rfl rfl) rfl rfl ?_
              refine l_q rfl (q_fieldAddr rfl Try.underlying100 rfl Try.sizeOf98 rfl rfl) rfl rfl ?_
              refine Pre.fact (fun _ h => rd_sv (h.rd 0 rfl)) ?_
              rintro ⟨so, rfl⟩
              refine pull1 ?_
              refine l_e rfl ?_
              refine e_store rfl rfl Try.sizeOf98 rfl rfl rfl (Nat.le_of_ble_eq_true rfl) ?_
              refine cells_eq (show _ = RS.cells { R with vL := sv.v, vO := so.v, fl := R.fl.set i ({ f with pins := f.pins + 1, ref := true } : FC) } (Mo.leave (M.put i { vw f with pins := (vw f).pins + 1, ref := true }) t) from rfl) ?_
              refine l_nil ?_
              refine k_then ?_
              refine c_seq ?_
              refine c_region _ rfl ?_
              refine l_q rfl (q_assign rfl rfl) rfl rfl ?_
              refine l_nil ?_
              refine k_then ?_
              refine c_ret ?_
              refine k_then_ret ?_
              refine pull1 ?_
              refine pull2 ?_
              refine pull3 ?_
              refine pull3 ?_
              refine r_one rfl rfl ?_
              exact fun _ h => ⟨{ R with vL := sv.v, vO := so.v, fl := R.fl.set i ({ f with pins := f.pins + 1, ref := true } : FC) }, by rw [hu], ⟨by rw [hu]; exact (hR.put (i := i) (f' := ({ f with pins := f.pins + 1, ref := true } : FC)) rfl), fun _ hG => hG.set_same hfi rfl⟩, by rw [hu]; exact h⟩
        · obtain ⟨q, hq, hqt⟩ := stand_at hs
          have hlt := (List.getElem?_eq_some_iff.1 hq).1
          have hmw := mayW_at (b := b) h1 h2 hs hq hqt
          refine Pre.setV (t := 7) (c := .int .i64 (k : Int)) rfl (by rw [show fst1 (isT t) M.line = some k from hs]; rfl) ?_
          refine c_region _ rfl ?_
          refine l_q rfl (q_move rfl rfl) rfl rfl ?_
          refine l_q rfl (q_geq rfl rfl rfl) rfl rfl ?_
          refine l_q rfl (q_move rfl rfl) rfl rfl ?_
          refine Pre.setB (t := 34) (c := true) rfl (decide_eq_true (by omega)) ?_
          refine l_q rfl (q_move rfl rfl) rfl rfl ?_
          refine l_q rfl (q_nilCheck rfl rfl) rfl rfl ?_
          refine l_q rfl (q_fieldAddr rfl Try.underlying100 rfl Try.sizeOf98 rfl rfl) rfl rfl ?_
          refine l_q rfl (q_loadC rfl Try.isAgg98 rfl (fun _ h => h.at 0 rfl) rfl) rfl rfl ?_
          refine l_q rfl (q_move rfl rfl) rfl rfl ?_
          refine l_q rfl (q_indexV k rfl Try.underlying98 Try.sizeOf138 rfl (fun _ h => h.rd 2 rfl) rfl rfl (by omega)) rfl rfl ?_
          refine l_q rfl (q_fieldAddr rfl Try.underlying138 rfl Try.sizeOf3 rfl rfl) rfl rfl ?_
          refine l_q rfl (q_loadV k 1 rfl Try.isAgg3 rfl rfl (fun _ h => h.rd 2 rfl) hq rfl) rfl rfl ?_
          refine l_q rfl (q_move rfl rfl) rfl rfl ?_
          refine l_q rfl (q_neq rfl rfl rfl) rfl rfl ?_
          refine l_q rfl (q_pick_t rfl rfl rfl) rfl rfl ?_
          refine l_nil ?_
          refine k_then ?_
          refine Pre.caseB 45 rfl (fun hqb => ?_) (fun hqb => ?_)
          · try simp only [decide_eq_true_eq, decide_eq_false_iff_not, Bool.not_eq_true', Bool.not_eq_false'] at hqb
            have hmf : M.mayW t b = false := by rw [hmw]; exact decide_eq_false (by omega)
            have hu := pin_no (M := M) (t := t) (b := b) (by rw [hmf]; simp)
            refine c_true rfl ?_
            refine c_seq ?_
            refine c_region _ rfl ?_
            refine l_q rfl (q_assign rfl rfl) rfl rfl ?_
            refine l_nil ?_
            refine k_then ?_
            refine c_ret ?_
            refine k_then_ret ?_
            refine r_one rfl rfl ?_
            exact fun _ h => ⟨R, by rw [hu], ⟨by rw [hu]; exact hR, fun _ h => h⟩, by rw [hu]; exact h⟩
          · try simp only [decide_eq_true_eq, decide_eq_false_iff_not, Bool.not_eq_true', Bool.not_eq_false'] at hqb
            have hm : M.mayW t b = true := by rw [hmw]; exact decide_eq_true (by omega)
            have hbm : (bkB b && M.mayW t b) = true := by rw [hb, hm]; rfl
            refine c_false rfl ?_
            refine c_skip ?_
            refine k_then ?_
            refine c_seq ?_
            refine c_region _ rfl ?_
            refine l_q rfl (q_move rfl rfl) rfl rfl ?_
            refine l_q rfl (q_move rfl rfl) rfl rfl ?_
            refine l_e rfl ?_
            refine e_call_00 (rfind_spec hR hO b) rfl rfl rfl Try.call87 rfl (fun _ h => RC.ofm (R := R) (M := M) h (fun e he => he)) ?_
            intro _ _
            refine l_q rfl (q_assign rfl rfl) rfl rfl ?_
            refine l_nil ?_
            refine k_then ?_
            refine c_seq ?_
            refine c_seq ?_
            refine opt_cases (M.find b) (fun hf => ?_) (fun i hf => ?_)
            · refine Pre.setV (t := 8) (c := .int .i64 (-1)) rfl (by rw [hf]; rfl) ?_
              refine c_region _ rfl ?_
              refine l_q rfl (q_move rfl rfl) rfl rfl ?_
              refine l_q rfl (q_geq rfl rfl rfl) rfl rfl ?_
              refine l_nil ?_
              refine k_then ?_
              refine Pre.setB (t := 50) (c := false) rfl (rfl) ?_
              refine c_false rfl ?_
              refine c_skip ?_
              refine k_then ?_
              refine c_seq ?_
              refine c_region _ rfl ?_
              refine l_q rfl (q_move rfl rfl) rfl rfl ?_
              refine l_q rfl (q_move rfl rfl) rfl rfl ?_
              refine l_q rfl (q_move rfl rfl) rfl rfl ?_
              refine l_e rfl ?_
              refine e_callH [] (rtakes_spec hR hO t b) rfl rfl rfl Try.call89 rfl (fun _ _ => trivial) ?_
              intro v _
              refine Pre.world (St _ _ (cellsE br 100 (RS.cells { R with vL := v } (M.tk t b)) :: rowE ({ R with vL := v }).vF 102 FC.encR ({ R with vL := v }).fl :: rowE ({ R with vL := v }).vL 138 encP (Mo.line (M.tk t b)) :: rowE ({ R with vL := v }).vO 138 encP (Mo.loads (M.tk t b)) :: [])) (fun _ h => h) ?_
              refine l_q rfl (q_assign rfl rfl) rfl rfl ?_
              refine l_nil ?_
              refine k_then ?_
              refine c_seq ?_
              refine c_seq ?_
              refine opt_cases (M.takes t) (fun hk => ?_) (fun k hk => ?_)
              · have hu := pin_queue hbm hf hk
                rw [tk_none hk]
                refine Pre.setV (t := 8) (c := .int .i64 (-1)) rfl (by rw [hk]; rfl) ?_
                refine c_region _ rfl ?_
                refine l_q rfl (q_move rfl rfl) rfl rfl ?_
                refine l_q rfl (q_lss rfl rfl rfl) rfl rfl ?_
                refine l_nil ?_
                refine k_then ?_
                refine Pre.setB (t := 109) (c := true) rfl (rfl) ?_
                refine c_true rfl ?_
                refine c_seq ?_
                refine c_region _ rfl ?_
                refine l_q rfl (q_assign rfl rfl) rfl rfl ?_
                refine l_nil ?_
                refine k_then ?_
                refine c_ret ?_
                refine k_then_ret ?_
                refine r_one rfl rfl ?_
                exact fun _ h => ⟨{ R with vL := v }, by rw [hu], ⟨by rw [hu]; exact hR, fun _ h => h⟩, by rw [hu]; exact h⟩
              · have hu := pin_read hbm hf hk
                rw [tk_some hk]
                obtain ⟨y0, hy0, hys, hya⟩ := takes_at hk
                obtain ⟨f0, hfk, hfy⟩ := hR.get hy0
                have hkl := (List.getElem?_eq_some_iff.1 hfk).1
                refine Pre.setV (t := 8) (c := .int .i64 (k : Int)) rfl (by rw [hk]; rfl) ?_
                refine c_region _ rfl ?_
                refine l_q rfl (q_move rfl rfl) rfl rfl ?_
                refine l_q rfl (q_lss rfl rfl rfl) rfl rfl ?_
                refine l_nil ?_
                refine k_then ?_
                refine Pre.setB (t := 109) (c := false) rfl (decide_eq_false (by omega)) ?_
                refine c_false rfl ?_
                refine c_skip ?_
                refine k_then ?_
                refine c_seq ?_
                refine c_region _ rfl ?_
                refine l_q rfl (q_move rfl rfl) rfl rfl ?_
                refine l_q rfl (q_nilCheck rfl rfl) rfl rfl ?_
                refine l_q rfl (q_fieldAddr rfl Try.underlying100 rfl Try.sizeOf97 rfl rfl) rfl rfl ?_
                refine l_q rfl (q_loadC rfl Try.isAgg97 rfl (fun _ h => h.at 0 rfl) rfl) rfl rfl ?_
                refine l_q rfl (q_move rfl rfl) rfl rfl ?_
                refine l_q rfl (q_move rfl rfl) rfl rfl ?_
                refine l_q rfl (q_move rfl rfl) rfl rfl ?_
                refine l_q rfl (q_build ((⟨1, b, t, 1, true, false, nv0⟩ : FC).cR) rfl rfl (fun w => by kernel_rfl)) rfl rfl ?_
                refine l_q rfl (q_indexV k rfl Try.underlying97 Try.sizeOf102 rfl (fun _ h => h.rd 1 rfl) rfl rfl (by omega)) rfl rfl ?_
                refine pull1 ?_
                refine l_e rfl ?_
                refine e_storeVAgg k (⟨1, b, t, 1, true, false, nv0⟩ : FC) rfl rfl Try.sizeOf102 rfl rfl rfl rfl (by omega) ?_
                refine l_nil ?_
                refine k_then ?_
                refine c_seq ?_
                refine c_region _ rfl ?_
                refine l_q rfl (q_assign rfl rfl) rfl rfl ?_
                refine l_nil ?_
                refine k_then ?_
                refine c_ret ?_
                refine pull3 ?_
                refine pull3 ?_
                refine pull2 ?_
                refine pull3 ?_
                refine r_one rfl rfl ?_
                exact fun _ h => ⟨{ R with vL := v, fl := R.fl.set k (⟨1, b, t, 1, true, false, nv0⟩ : FC) }, by rw [hu], ⟨by rw [hu]; exact (show RelR { R with vL := v } (M.leave t) from hR).put rfl, fun _ hG => hG.set (.inl ⟨rfl, rfl⟩)⟩, by rw [hu]; exact h⟩
            · obtain ⟨y, hy, hyb, hys, hya⟩ := find_at hf
              obtain ⟨f, hfi, hfy⟩ := hR.get hy
              have hlt := (List.getElem?_eq_some_iff.1 hfi).1
              rw [← hfy] at hya hys hyb hy
              have hu := pin_at hbm hf hya
              have hpb := hO.pins _ (List.mem_of_getElem? hy)
              have hpb1 : 0 ≤ f.pins := hpb.1
              have hpb2 : f.pins ≤ (B : Int) := hpb.2
              refine Pre.setV (t := 8) (c := .int .i64 (i : Int)) rfl (by rw [hf]; rfl) ?_
              refine c_region _ rfl ?_
              refine l_q rfl (q_move rfl rfl) rfl rfl ?_
              refine l_q rfl (q_geq rfl rfl rfl) rfl rfl ?_
              refine l_nil ?_
              refine k_then ?_
              refine Pre.setB (t := 50) (c := true) rfl (decide_eq_true (by omega)) ?_
              refine c_true rfl ?_
              refine c_seq ?_
              refine c_draw [(0, some true), (1, some true), (2, some true), (3, some true), (4, some true), (5, some true), (6, some true), (7, some true), (8, some true), (9, some true), (10, some true), (11, some true), (12, some true), (13, some true), (14, none), (15, none), (16, none)] [14, 15, 16] [(_, some true), (_, some true), (_, some true), (_, some true), (_, some true), (_, some true), (_, some true), (_, some true), (_, some true), (_, some true), (_, some true), (_, some true), (_, some true), (_, some true), (_, none), (_, none), (_, none)] _ (blind_then (blind_then blind_body)) rfl (by kernel_rfl) (by kernel_rfl) rfl rfl rfl (by kernel_rfl) St.drawn (fun _ h => h) ?_
              refine d_q rfl (q_move rfl rfl) rfl rfl ?_
              refine d_q rfl (q_nilCheck rfl rfl) rfl rfl ?_
              refine d_q rfl (q_fieldAddr rfl Try.underlying100 rfl Try.sizeOf97 rfl rfl) rfl rfl ?_
              refine d_q rfl (q_loadC rfl Try.isAgg97 rfl (fun _ h => h.at 0 rfl) rfl) rfl rfl ?_
              refine d_q rfl (q_move rfl rfl) rfl rfl ?_
              refine d_q rfl (q_move rfl rfl) rfl rfl ?_
              refine d_q rfl (q_nilCheck rfl rfl) rfl rfl ?_
              refine d_q rfl (q_fieldAddr rfl Try.underlying100 rfl Try.sizeOf97 rfl rfl) rfl rfl ?_
              refine d_q rfl (q_loadC rfl Try.isAgg97 rfl (fun _ h => h.at 0 rfl) rfl) rfl rfl ?_
              refine d_q rfl (q_move rfl rfl) rfl rfl ?_
              refine d_q rfl (q_indexV i rfl Try.underlying97 Try.sizeOf102 rfl (fun _ h => h.rd 1 rfl) rfl rfl (by omega)) rfl rfl ?_
              refine d_q rfl (q_fieldAddr rfl Try.underlying102 rfl Try.sizeOf3 rfl rfl) rfl rfl ?_
              refine d_q rfl (q_loadV i 2 rfl Try.isAgg3 rfl rfl (fun _ h => h.rd 1 rfl) hfi rfl) rfl rfl ?_
              refine d_q rfl (q_add64 rfl rfl rfl (by omega)) rfl rfl ?_
              refine d_t rfl ?_
              refine e_q rfl rfl (q_indexV i rfl Try.underlying97 Try.sizeOf102 rfl (fun _ h => h.rd 1 rfl) rfl rfl (by omega)) ?_
              refine d_t rfl ?_
              refine e_q rfl rfl (q_fieldAddr rfl Try.underlying102 rfl Try.sizeOf3 rfl rfl) ?_
              refine pull1 ?_
              refine d_t rfl ?_
              refine e_storeV i 2 (({ f with pins := f.pins + 1 } : FC)) rfl rfl Try.sizeOf3 rfl rfl rfl hfi (by decide) rfl ?_
              refine d_nil ?_
              refine k_then ?_
              refine c_seq ?_
              have hf2 : (R.fl.set i ({ f with pins := f.pins + 1 } : FC))[i]? = some ({ f with pins := f.pins + 1 } : FC) := List.getElem?_set_self hlt
              have hl2 : (R.fl.set i ({ f with pins := f.pins + 1 } : FC)).length = R.fl.length := List.length_set
              refine c_region _ rfl ?_
              refine l_q rfl (q_move rfl rfl) rfl rfl ?_
              refine l_q rfl (q_nilCheck rfl rfl) rfl rfl ?_
              refine l_q rfl (q_fieldAddr rfl Try.underlying100 rfl Try.sizeOf97 rfl rfl) rfl rfl ?_
              refine l_q rfl (q_loadC rfl Try.isAgg97 rfl (fun _ h => h.at 1 rfl) rfl) rfl rfl ?_
              refine l_q rfl (q_move rfl rfl) rfl rfl ?_
              refine l_q rfl (q_indexV i rfl Try.underlying97 Try.sizeOf102 rfl (fun _ h => h.rd 0 rfl) rfl rfl (by omega)) rfl rfl ?_
              refine l_q rfl (q_fieldAddr rfl Try.underlying102 rfl Try.sizeOf4 rfl rfl) rfl rfl ?_
              refine l_e rfl ?_
              refine e_storeV i 3 (({ f with pins := f.pins + 1, ref := true } : FC)) rfl rfl Try.sizeOf4 rfl rfl rfl hf2 (by decide) rfl ?_
              refine l_nil ?_
              refine k_then ?_
              refine c_seq ?_
              refine row_eq (List.set_set ..) ?_
              have hf3 : (R.fl.set i ({ f with pins := f.pins + 1, ref := true } : FC))[i]? = some ({ f with pins := f.pins + 1, ref := true } : FC) := List.getElem?_set_self hlt
              have hl3 : (R.fl.set i ({ f with pins := f.pins + 1, ref := true } : FC)).length = R.fl.length := List.length_set
              refine c_region _ rfl ?_
              refine l_q rfl (q_move rfl rfl) rfl rfl ?_
              refine l_q rfl (q_move rfl rfl) rfl rfl ?_
              refine l_q rfl (q_nilCheck rfl rfl) rfl rfl ?_
              refine l_q rfl (q_fieldAddr rfl Try.underlying100 rfl Try.sizeOf98 rfl rfl) rfl rfl ?_
              refine l_q rfl (q_loadC rfl Try.isAgg98 rfl (fun _ h => h.at 1 rfl) rfl) rfl rfl ?_
              refine l_q rfl (q_move rfl rfl) rfl rfl ?_
              refine l_e rfl ?_
              refine e_call_01 (rleave_spec M.line t (by omega)) rfl rfl rfl Try.call88 rfl (fun _ h => h.rd 2 rfl) ?_
              intro v _
              refine row_eq (show _ = (M.leave t).line from (leave_line_eq hO t).symm) ?_
              refine l_q rfl (q_nilCheck rfl rfl) rfl rfl ?_
              refine l_q rfl (q_fieldAddr rfl Try.underlying100 rfl Try.sizeOf98 rfl rfl) rfl rfl ?_
              refine Pre.fact (fun _ h => rd_sv (h.rd 0 rfl)) ?_
              rintro ⟨sv, rfl⟩
              refine pull3 ?_
              refine drop0 ?_
              refine pull2 ?_
              refine l_e rfl ?_
              refine e_store rfl rfl Try.sizeOf98 rfl rfl rfl (Nat.le_of_ble_eq_true rfl) ?_
              refine cells_eq (show _ = RS.cells { R with vL := sv.v, fl := R.fl.set i ({ f with pins := f.pins + 1, ref := true } : FC) } (Mo.leave (M.put i { vw f with pins := (vw f).pins + 1, ref := true }) t) from rfl) ?_
              refine l_nil ?_
              refine k_then ?_
              refine c_seq ?_
              refine c_seq ?_
              refine c_region _ rfl ?_
              refine l_q rfl (q_move rfl rfl) rfl rfl ?_
              refine l_q rfl (q_nilCheck rfl rfl) rfl rfl ?_
              refine l_q rfl (q_fieldAddr rfl Try.underlying100 rfl Try.sizeOf97 rfl rfl) rfl rfl ?_
              refine l_q rfl (q_loadC rfl Try.isAgg97 rfl (fun _ h => h.at 0 rfl) rfl) rfl rfl ?_
              refine l_q rfl (q_move rfl rfl) rfl rfl ?_
              refine l_q rfl (q_indexV i rfl Try.underlying97 Try.sizeOf102 rfl (fun _ h => h.rd 2 rfl) rfl rfl (by omega)) rfl rfl ?_
              refine l_q rfl (q_fieldAddr rfl Try.underlying102 rfl Try.sizeOf3 rfl rfl) rfl rfl ?_
              refine l_q rfl (q_loadV i 0 rfl Try.isAgg3 rfl rfl (fun _ h => h.rd 2 rfl) hf3 rfl) rfl rfl ?_
              refine l_q rfl (q_eql rfl rfl rfl) rfl rfl ?_
              refine l_nil ?_
              refine k_then ?_
              refine Pre.caseB 91 rfl (fun hs2 => ?_) (fun hs2 => ?_)
              · try simp only [decide_eq_true_eq, decide_eq_false_iff_not, Bool.not_eq_true', Bool.not_eq_false'] at hs2
                rw [if_pos (show (vw f).st = 2 from hs2)] at hu
                refine c_true rfl ?_
                refine c_seq ?_
                refine c_region _ rfl ?_
                refine l_q rfl (q_assign rfl rfl) rfl rfl ?_
                refine l_nil ?_
                refine k_then ?_
                refine c_ret ?_
                refine k_then_ret ?_
                refine k_then_ret ?_
                refine pull3 ?_
                refine pull2 ?_
                refine pull3 ?_
                refine pull3 ?_
                refine r_one rfl rfl ?_
                exact fun _ h => ⟨{ R with vL := sv.v, fl := R.fl.set i ({ f with pins := f.pins + 1, ref := true } : FC) }, by rw [hu], ⟨by rw [hu]; exact (hR.put (i := i) (f' := ({ f with pins := f.pins + 1, ref := true } : FC)) rfl), fun _ hG => hG.set_same hfi rfl⟩, by rw [hu]; exact h⟩
              · try simp only [decide_eq_true_eq, decide_eq_false_iff_not, Bool.not_eq_true', Bool.not_eq_false'] at hs2
                rw [if_neg (show ¬ (vw f).st = 2 from hs2)] at hu
                refine c_false rfl ?_
                refine c_skip ?_
                refine k_then ?_
                refine c_seq ?_
                refine c_region _ rfl ?_
                refine l_q rfl (q_move rfl rfl) rfl rfl ?_
                refine l_q rfl (q_move rfl rfl) rfl rfl ?_
                refine l_q rfl (q_nilCheck rfl rfl) rfl rfl ?_
                refine l_q rfl (q_fieldAddr rfl Try.underlying100 rfl Try.sizeOf98 rfl rfl) rfl rfl ?_
                refine l_q rfl (q_loadC rfl Try.isAgg98 rfl (fun _ h => h.at 0 rfl) rfl) rfl rfl ?_
                refine l_q rfl (q_move rfl rfl) rfl rfl ?_
                refine l_q rfl (q_move rfl rfl) rfl rfl ?_
                refine l_q rfl (q_build (encP.f (t, b)) rfl rfl (fun w => by kernel_rfl)) rfl rfl ?_
                refine l_e rfl ?_
                refine e_buildSliceV (sz := 2) [.tmp 99] rfl rfl rfl rfl rfl Try.underlying98 Try.sizeOf138 rfl Try.zeroValue138 rfl ?_
                intro b4
                refine pull4 ?_
                refine l_e rfl ?_
                refine e_append rfl rfl rfl Try.underlying98 Try.underlying98 info138 rfl rfl rfl rfl rfl (fun _ h => lit_rd (h.at 1 rfl) encP [(t, b)] rfl rfl) (by simp only [byt138, List.length_append, List.length_cons, List.length_nil]; omega) (by simp only [List.length_append, List.length_cons, List.length_nil]; omega) ?_
                intro v2
                refine pull1 ?_
                refine drop0 ?_
                refine l_q rfl (q_nilCheck rfl rfl) rfl rfl ?_
                refine l_q rfl (q_fieldAddr rfl Try.underlying100 rfl Try.sizeOf98 rfl rfl) rfl rfl ?_
                refine Pre.fact (fun _ h => rd_sv (h.rd 0 rfl)) ?_
                rintro ⟨so, rfl⟩
                refine pull1 ?_
                refine l_e rfl ?_
                refine e_store rfl rfl Try.sizeOf98 rfl rfl rfl (Nat.le_of_ble_eq_true rfl) ?_
                refine cells_eq (show _ = RS.cells { R with vL := sv.v, vO := so.v, fl := R.fl.set i ({ f with pins := f.pins + 1, ref := true } : FC) } (Mo.leave (M.put i { vw f with pins := (vw f).pins + 1, ref := true }) t) from rfl) ?_
                refine l_nil ?_
                refine k_then ?_
                refine c_seq ?_
                refine c_region _ rfl ?_
                refine l_q rfl (q_assign rfl rfl) rfl rfl ?_
                refine l_nil ?_
                refine k_then ?_
                refine c_ret ?_
                refine k_then_ret ?_
                refine pull1 ?_
                refine pull2 ?_
                refine pull3 ?_
                refine pull3 ?_
                refine r_one rfl rfl ?_
                exact fun _ h => ⟨{ R with vL := sv.v, vO := so.v, fl := R.fl.set i ({ f with pins := f.pins + 1, ref := true } : FC) }, by rw [hu], ⟨by rw [hu]; exact (hR.put (i := i) (f' := ({ f with pins := f.pins + 1, ref := true } : FC)) rfl), fun _ hG => hG.set_same hfi rfl⟩, by rw [hu]; exact h⟩
end Go.Proofs.Ytpfbagkjhchojaa
