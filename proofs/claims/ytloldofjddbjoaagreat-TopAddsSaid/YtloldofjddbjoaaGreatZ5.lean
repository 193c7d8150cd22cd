/- Part 5 of the proof: texts of my own, laid behind one another. No condition. -/
import Derived.Test.YtloldofjddbjoaaGreatZ4
set_option linter.unusedVariables false
set_option linter.unusedSimpArgs false
set_option maxHeartbeats 8000000
set_option maxRecDepth 100000
namespace Go.Proofs.YtloldofjddbjoaaGreat
open Go.Sep Go.RowKit Tryz
def mOf (o : Opn) : Ms := ⟨o.kind, 0, kOf o, if o.kind = 1 then vOf o else kv0 16, if o.kind = 3 then o.by' else 0, o.wk, by decide, by split <;> first | exact o.wb | decide⟩
structure Opn.Ok (o : Opn) : Prop where
  k : o.key.size ≤ 8
  v : o.kind = 1 → o.val.size ≤ 16
theorem kOf_ck {o : Opn} (h : o.Ok) : kck (kOf o) = true := by unfold kOf; rw [dif_pos h.k]; exact kmk_ck _ _ _
inductive Ph where
  | idle
  | rd (a : Nat)
  | wr (a : Nat)
  | rm (a : Nat)
deriving DecidableEq
structure Cl where
  ops : List Opn
  nx : Nat
  ph : Ph
def Cl.op (c : Cl) : Opn := c.ops.getD c.nx ⟨0, ⟨#[]⟩, ⟨#[]⟩, 0, by decide, by decide⟩
def Cl.ended (c : Cl) : Bool := decide (c.ph = .idle) && decide (c.nx = c.ops.length)
structure CC where
  b : Nat
  vo : Value
  bw : Nat
  br : Nat
  m : Cl
def CC.ptrs (c : CC) : List Value := match c.m.ph with
  | .idle => [.pointer none, .pointer none]
  | .rd _ => [ptV c.bw, .pointer none]
  | .wr _ => [.pointer none, ptV c.bw]
  | .rm _ => [.pointer none, ptV c.bw]
def CC.more (t : Int) (c : CC) : List Ent := match c.m.ph with
  | .idle => []
  | .rd a => [WKE c.bw ⟨t, kOf c.m.op, a, !decide (a = 1), kv0 16, false⟩]
  | .wr a => [WRE c.bw ⟨t, mOf c.m.op, a, !decide (a = 0), .pointer none, 0⟩]
  | .rm a => [RME c.br t a true 0, WRE c.bw ⟨t, mOf c.m.op, 4, true, ptV c.br, 0⟩]
abbrev CLE (b : Nat) (vo : Value) (nx : Nat) (ps : List Value) : Ent := cellsE b 125 (vo :: .int .i64 (nx : Int) :: ps)
def CC.H (t : Int) (c : CC) : List Ent := CLE c.b c.vo c.m.nx c.ptrs :: rowE c.vo 43 Opn.enc c.m.ops :: c.more t
def evB (t : Int) (c : Cl) : Evt := ⟨t, c.nx, false, ans0⟩
def evD (t : Int) (c : Cl) (a : Ans) : Evt := ⟨t, c.nx, true, a⟩
def Cl.done (c : Cl) : Cl := { c with nx := c.nx + 1, ph := .idle }
def stepC (t : Int) (L : Lf) (c : Cl) : Lf × Cl × Bool × List Evt := match c.ph with
  | .idle => (L, { c with ph := if c.op.kind = 4 then .rd 1 else .wr 0 }, false, [evB t c])
  | .rd 1 => ((L.pin t).2, { c with ph := .rd (if (L.pin t).1 = 3 then 2 else 3) }, false, [])
  | .rd 2 => (L.fill, { c with ph := .rd 3 }, false, [])
  | .rd 3 => (L.take t false, { c with ph := .rd 5 }, false, [])
  | .rd _ => (L.leave t, c.done, false, [evD t c ⟨0, (lfind (lfe L) (kOf c.op)).2, (lfind (lfe L) (kOf c.op)).1⟩])
  | .wr 0 => ((L.pin t).2, { c with ph := .wr (if (L.pin t).1 = 3 then 1 else 2) }, false, [])
  | .wr 1 => (L.fill, { c with ph := .wr 2 }, false, [])
  | .wr 2 => (L.take t true, { c with ph := .wr 3 }, false, [])
  | .wr _ => if fitL (lfd (lput (lfe L) (mOf c.op))) = true then ((L.setN (lput (lfe L) (mOf c.op))).leave t, c.done, true, [evD t c ans0]) else (L, { c with ph := .rm 1 }, false, [])
  | .rm 1 => (L, { c with ph := .rm 6 }, false, [])
  | .rm 6 => (L.claim t, { c with ph := .rm 7 }, false, [])
  | .rm 7 => (L.claim t, { c with ph := .rm 10 }, false, [])
  | .rm _ => (L.give.leave t, c.done, false, [evD t c ⟨3, false, kv0 16⟩])
def preC (t : Int) (L : Lf) (c : Cl) : Prop := match c.ph with
  | .idle => c.nx < c.ops.length ∧ c.op.Ok ∧ (c.op.kind = 1 ∨ c.op.kind = 3 ∨ c.op.kind = 4)
  | .rd 1 => True
  | .rd 2 => L.rt = some t ∧ L.r.st = 1
  | .rd 3 => L.r.st = 2
  | .rd 5 => L.r.st = 2 ∧ hasB L.la t = true
  | .rd _ => False
  | .wr 0 => True
  | .wr 1 => L.rt = some t ∧ L.r.st = 1
  | .wr 2 => L.r.st = 2
  | .wr 3 => L.r.st = 2 ∧ L.la.wr = t ∧ kck (mOf c.op).key = true
  | .wr _ => False
  | .rm 1 => L.r.st = 2 ∧ 2 ≤ L.r.nd.es.length
  | .rm 6 => L.r.st = 2 ∧ (L.cl = 0 ∨ L.ct = t) ∧ L.cl ≤ 1
  | .rm 7 => L.r.st = 2 ∧ (L.cl = 0 ∨ L.ct = t) ∧ L.cl ≤ 1
  | .rm 10 => L.r.st = 2 ∧ L.cl = 2 ∧ L.ct = t ∧ L.s.left < 2 ∧ hasB L.la t = true
  | .rm _ => False
theorem may_ld {L : Lf} {t : Int} (h : L.mayH t = true) : t ∉ L.ld := by
  unfold Lf.mayH at h
  rw [Lf.may_iff] at h
  simp only [Bool.and_eq_true, Bool.not_eq_true', decide_eq_false_iff_not] at h
  exact h.2.2
theorem bans0 (vn i0 i1 i2 i3 i4 i5 i6 i7 i8 i9 j0 j1 j2 j3 j4 j5 : Int) (f : Bool) (w : World) : (Instr.build 58 #[(1, .bool f), (2, .agg [.int .i64 vn, .int .u8 i0, .int .u8 i1, .int .u8 i2, .int .u8 i3, .int .u8 i4, .int .u8 i5, .int .u8 i6, .int .u8 i7, .int .u8 i8, .int .u8 i9, .int .u8 j0, .int .u8 j1, .int .u8 j2, .int .u8 j3, .int .u8 j4, .int .u8 j5].toArray)]).run Tryz.prog w = .ok (.agg [.int .i64 0, .bool f, .int .i64 vn, .int .u8 i0, .int .u8 i1, .int .u8 i2, .int .u8 i3, .int .u8 i4, .int .u8 i5, .int .u8 i6, .int .u8 i7, .int .u8 i8, .int .u8 i9, .int .u8 j0, .int .u8 j1, .int .u8 j2, .int .u8 j3, .int .u8 j4, .int .u8 j5].toArray) w := by kernel_rfl
theorem bans (f : Bool) (v : Kv 16) (w : World) : (Instr.build 58 #[(1, .bool f), (2, .agg v.c.toArray)]).run Tryz.prog w = .ok (.agg (Ans.c ⟨0, f, v⟩).toArray) w := by
  obtain ⟨i0, i1, i2, i3, i4, i5, i6, i7, i8, i9, j0, j1, j2, j3, j4, j5, hv⟩ := m16_list v
  have e1 : v.c = [.int .i64 v.n, .int .u8 i0, .int .u8 i1, .int .u8 i2, .int .u8 i3, .int .u8 i4, .int .u8 i5, .int .u8 i6, .int .u8 i7, .int .u8 i8, .int .u8 i9, .int .u8 j0, .int .u8 j1, .int .u8 j2, .int .u8 j3, .int .u8 j4, .int .u8 j5] := by unfold Kv.c; rw [hv]; rfl
  unfold Ans.c
  dsimp only
  rw [e1]
  exact bans0 v.n i0 i1 i2 i3 i4 i5 i6 i7 i8 i9 j0 j1 j2 j3 j4 j5 f w
theorem bev0 (t k code vn i0 i1 i2 i3 i4 i5 i6 i7 i8 i9 j0 j1 j2 j3 j4 j5 : Int) (f : Bool) (w : World) : (Instr.build 71 #[(0, .int .i64 t), (1, .int .i64 k), (2, .bool true), (3, .agg [.int .i64 code, .bool f, .int .i64 vn, .int .u8 i0, .int .u8 i1, .int .u8 i2, .int .u8 i3, .int .u8 i4, .int .u8 i5, .int .u8 i6, .int .u8 i7, .int .u8 i8, .int .u8 i9, .int .u8 j0, .int .u8 j1, .int .u8 j2, .int .u8 j3, .int .u8 j4, .int .u8 j5].toArray)]).run Tryz.prog w = .ok (.agg [.int .i64 t, .int .i64 k, .bool true, .int .i64 code, .bool f, .int .i64 vn, .int .u8 i0, .int .u8 i1, .int .u8 i2, .int .u8 i3, .int .u8 i4, .int .u8 i5, .int .u8 i6, .int .u8 i7, .int .u8 i8, .int .u8 i9, .int .u8 j0, .int .u8 j1, .int .u8 j2, .int .u8 j3, .int .u8 j4, .int .u8 j5].toArray) w := by kernel_rfl
theorem bev (t k : Int) (a : Ans) (w : World) : (Instr.build 71 #[(0, .int .i64 t), (1, .int .i64 k), (2, .bool true), (3, .agg a.c.toArray)]).run Tryz.prog w = .ok (.agg (Evt.c ⟨t, k, true, a⟩).toArray) w := by
  obtain ⟨code, f, v⟩ := a
  obtain ⟨i0, i1, i2, i3, i4, i5, i6, i7, i8, i9, j0, j1, j2, j3, j4, j5, hv⟩ := m16_list v
  have e1 : v.c = [.int .i64 v.n, .int .u8 i0, .int .u8 i1, .int .u8 i2, .int .u8 i3, .int .u8 i4, .int .u8 i5, .int .u8 i6, .int .u8 i7, .int .u8 i8, .int .u8 i9, .int .u8 j0, .int .u8 j1, .int .u8 j2, .int .u8 j3, .int .u8 j4, .int .u8 j5] := by unfold Kv.c; rw [hv]; rfl
  unfold Evt.c Ans.c
  dsimp only
  rw [e1]
  exact bev0 t k code v.n i0 i1 i2 i3 i4 i5 i6 i7 i8 i9 j0 j1 j2 j3 j4 j5 f w
theorem bmsg0 (ki kn a b c d e f g h : Int) (w : World) : (Instr.build 154 #[(0, .int .i64 ki), (2, .agg [.int .i64 kn, .int .u8 a, .int .u8 b, .int .u8 c, .int .u8 d, .int .u8 e, .int .u8 f, .int .u8 g, .int .u8 h].toArray)]).run Tryz.prog w = .ok (.agg [.int .i64 ki, .int .u64 0, .int .i64 kn, .int .u8 a, .int .u8 b, .int .u8 c, .int .u8 d, .int .u8 e, .int .u8 f, .int .u8 g, .int .u8 h, .int .i64 0, .int .u8 0, .int .u8 0, .int .u8 0, .int .u8 0, .int .u8 0, .int .u8 0, .int .u8 0, .int .u8 0, .int .u8 0, .int .u8 0, .int .u8 0, .int .u8 0, .int .u8 0, .int .u8 0, .int .u8 0, .int .u8 0, .int .u64 0].toArray) w := by kernel_rfl
theorem bmsg (ki : Int) (hk : (Lit.int .i64 ki).wf = true) (k : Kv 8) (w : World) : (Instr.build 154 #[(0, .int .i64 ki), (2, .agg k.c.toArray)]).run Tryz.prog w = .ok (.agg (Ms.c ⟨ki, 0, k, kv0 16, 0, hk, by decide, by decide⟩).toArray) w := by
  obtain ⟨a, b, c, d, e, f, g, h, hb⟩ := kv8_list k
  have e1 : k.c = [.int .i64 k.n, .int .u8 a, .int .u8 b, .int .u8 c, .int .u8 d, .int .u8 e, .int .u8 f, .int .u8 g, .int .u8 h] := by unfold Kv.c; rw [hb]; rfl
  unfold Ms.c
  dsimp only
  rw [e1]
  exact bmsg0 ki k.n a b c d e f g h w
abbrev HSE (bH : Nat) (vh : Value) (bt : Nat) (vT vO vE : Value) (sq pk : Int) : Ent := cellsE bH 100 [vh, ptV bt, vT, vO, vE, .int .u64 sq, .int .i64 pk]
theorem busy_no (b bw nx : Nat) (vo : Value) : Con Tryz.prog 75 [ptV b] (fun _ => True) [CLE b vo nx [.pointer none, .pointer none]] (fun _ : Unit => .bool false) (fun _ => True) (fun _ => [CLE b vo nx [.pointer none, .pointer none]]) := by
  intro w hE hH
  refine enter (n := 15) (vs := [ptV b]) (St w (dom [CLE b vo nx [.pointer none, .pointer none]]) [CLE b vo nx [.pointer none, .pointer none]]) func75 I I I (St.init hH) ?_
  refine Cs I (Ak I (Cs I (Lm I (Lc I (Lfa U125 I Z122 I (Lo G122 0 I (Lq I (q_nep I U122 I I) (Lm I (Sb 8 false I (I) (Lm I (Lc I (Lfa U125 I Z123 I (Lo G123 0 I (Lq I (q_nep I U123 I I) (Lq I (q_pick_f I I I) (Ak I (c_ret (r_one I I ?_))))))))))))))))))
  exact fun _ h => ⟨(), rfl, trivial, h⟩
theorem busy_r (b bw nx : Nat) (vo : Value) : Con Tryz.prog 75 [ptV b] (fun _ => True) [CLE b vo nx [ptV bw, .pointer none]] (fun _ : Unit => .bool true) (fun _ => True) (fun _ => [CLE b vo nx [ptV bw, .pointer none]]) := by
  intro w hE hH
  refine enter (n := 15) (vs := [ptV b]) (St w (dom [CLE b vo nx [ptV bw, .pointer none]]) [CLE b vo nx [ptV bw, .pointer none]]) func75 I I I (St.init hH) ?_
  refine Cs I (Ak I (Cs I (Lm I (Lc I (Lfa U125 I Z122 I (Lo G122 0 I (Lq I (q_nep I U122 I I) (Lm I (Sb 8 true I (I) (Lx I (Lx I (Lx I (Lx I (Lx I (Lq I (q_pick_t I I I) (Ak I (c_ret (r_one I I ?_))))))))))))))))))
  exact fun _ h => ⟨(), rfl, trivial, h⟩
theorem busy_w (b bw nx : Nat) (vo : Value) : Con Tryz.prog 75 [ptV b] (fun _ => True) [CLE b vo nx [.pointer none, ptV bw]] (fun _ : Unit => .bool true) (fun _ => True) (fun _ => [CLE b vo nx [.pointer none, ptV bw]]) := by
  intro w hE hH
  refine enter (n := 15) (vs := [ptV b]) (St w (dom [CLE b vo nx [.pointer none, ptV bw]]) [CLE b vo nx [.pointer none, ptV bw]]) func75 I I I (St.init hH) ?_
  refine Cs I (Ak I (Cs I (Lm I (Lc I (Lfa U125 I Z122 I (Lo G122 0 I (Lq I (q_nep I U122 I I) (Lm I (Sb 8 false I (I) (Lm I (Lc I (Lfa U125 I Z123 I (Lo G123 0 I (Lq I (q_nep I U123 I I) (Lq I (q_pick_f I I I) (Ak I (c_ret (r_one I I ?_))))))))))))))))))
  exact fun _ h => ⟨(), rfl, trivial, h⟩
theorem ended_no (b bw nx : Nat) (vo : Value) (ops : List Opn) : Con Tryz.prog 37 [ptV b] (fun _ => True) [CLE b vo nx [.pointer none, .pointer none], rowE vo 43 Opn.enc ops] (fun _ : Unit => .bool (decide (nx = ops.length))) (fun _ => True) (fun _ => [CLE b vo nx [.pointer none, .pointer none], rowE vo 43 Opn.enc ops]) := by
  intro w hE hH
  refine enter (n := 18) (vs := [ptV b]) (St w (dom [CLE b vo nx [.pointer none, .pointer none], rowE vo 43 Opn.enc ops]) [CLE b vo nx [.pointer none, .pointer none], rowE vo 43 Opn.enc ops]) func37 I I I (St.init hH) ?_
  refine Cs I (Ak I (c_seq (D8 [(0,O),(1,V),(2,O),(3,O),(4,O),(5,O),(6,O),(7,O),(8,O),(9,O),(10,O),(11,O),(12,O),(13,W),(14,W),(15,W)] [13, 14, 15] [(_,O),(_,V),(_,O),(_,O),(_,O),(_,O),(_,O),(_,O),(_,O),(_,O),(_,O),(_,O),(_,O),(_,W),(_,W),(_,W)] (fun w2 => (CLE b vo nx [.pointer none, .pointer none]).at w2 ∧ RdV w2 vo Opn.enc ops) I I I I St.drawn (fun _ h => ⟨h.at 0 rfl, h.rd 1 rfl⟩) (Dm I (d_e I (e_call_11 (busy_no b 0 nx vo) I I I call75 I Tt ?_))))))
  intro _ _
  refine d_held (fun _ h => ⟨h.at 0 rfl, h.rd 1 rfl⟩) (Dq I (q_not I I) (Dm I (Dm I (Dc I (Dfa U125 I Z3 I (Dq I (q_loadC I G3 I (fun _ h => h.1) I) (Dm I (Dc I (Dfa U125 I Z40 I (Dq I (q_loadC I G40 I (fun _ h => h.1) I) (Dq I (q_lenV I U40 I (fun _ h => h.2)) (d_t I (e_q I I (q_eql I I I) (d_t I (e_q I I (q_pick_t I I I) (d_t I (e_q I I (q_assign I I) (d_nil (Kt (c_ret (r_one I I ?_)))))))))))))))))))))
  exact fun _ h => ⟨(), congrArg (fun z => Ending.returned (Value.bool z)) (by rw [decide_eq_decide]; omega), trivial, h⟩
theorem ended_r (b bw nx : Nat) (vo : Value) (ops : List Opn) : Con Tryz.prog 37 [ptV b] (fun _ => True) [CLE b vo nx [ptV bw, .pointer none], rowE vo 43 Opn.enc ops] (fun _ : Unit => .bool (false)) (fun _ => True) (fun _ => [CLE b vo nx [ptV bw, .pointer none], rowE vo 43 Opn.enc ops]) := by
  intro w hE hH
  refine enter (n := 18) (vs := [ptV b]) (St w (dom [CLE b vo nx [ptV bw, .pointer none], rowE vo 43 Opn.enc ops]) [CLE b vo nx [ptV bw, .pointer none], rowE vo 43 Opn.enc ops]) func37 I I I (St.init hH) ?_
  refine Cs I (Ak I (c_seq (D8 [(0,O),(1,V),(2,O),(3,O),(4,O),(5,O),(6,O),(7,O),(8,O),(9,O),(10,O),(11,O),(12,O),(13,W),(14,W),(15,W)] [13, 14, 15] [(_,O),(_,V),(_,O),(_,O),(_,O),(_,O),(_,O),(_,O),(_,O),(_,O),(_,O),(_,O),(_,O),(_,W),(_,W),(_,W)] (fun w2 => (CLE b vo nx [ptV bw, .pointer none]).at w2 ∧ RdV w2 vo Opn.enc ops) I I I I St.drawn (fun _ h => ⟨h.at 0 rfl, h.rd 1 rfl⟩) (Dm I (d_e I (e_call_11 (busy_r b bw nx vo) I I I call75 I Tt ?_))))))
  intro _ _
  refine d_held (fun _ h => ⟨h.at 0 rfl, h.rd 1 rfl⟩) (Dq I (q_not I I) (Dm I (Dx I (Dx I (Dx I (Dx I (Dx I (Dx I (Dx I (Dx I (Dx I (Dx I (d_t I (e_q I I (q_pick_f I I I) (d_t I (e_q I I (q_assign I I) (d_nil (Kt (c_ret (r_one I I ?_))))))))))))))))))))
  exact fun _ h => ⟨(), rfl, trivial, h⟩
theorem ended_w (b bw nx : Nat) (vo : Value) (ops : List Opn) : Con Tryz.prog 37 [ptV b] (fun _ => True) [CLE b vo nx [.pointer none, ptV bw], rowE vo 43 Opn.enc ops] (fun _ : Unit => .bool (false)) (fun _ => True) (fun _ => [CLE b vo nx [.pointer none, ptV bw], rowE vo 43 Opn.enc ops]) := by
  intro w hE hH
  refine enter (n := 18) (vs := [ptV b]) (St w (dom [CLE b vo nx [.pointer none, ptV bw], rowE vo 43 Opn.enc ops]) [CLE b vo nx [.pointer none, ptV bw], rowE vo 43 Opn.enc ops]) func37 I I I (St.init hH) ?_
  refine Cs I (Ak I (c_seq (D8 [(0,O),(1,V),(2,O),(3,O),(4,O),(5,O),(6,O),(7,O),(8,O),(9,O),(10,O),(11,O),(12,O),(13,W),(14,W),(15,W)] [13, 14, 15] [(_,O),(_,V),(_,O),(_,O),(_,O),(_,O),(_,O),(_,O),(_,O),(_,O),(_,O),(_,O),(_,O),(_,W),(_,W),(_,W)] (fun w2 => (CLE b vo nx [.pointer none, ptV bw]).at w2 ∧ RdV w2 vo Opn.enc ops) I I I I St.drawn (fun _ h => ⟨h.at 0 rfl, h.rd 1 rfl⟩) (Dm I (d_e I (e_call_11 (busy_w b bw nx vo) I I I call75 I Tt ?_))))))
  intro _ _
  refine d_held (fun _ h => ⟨h.at 0 rfl, h.rd 1 rfl⟩) (Dq I (q_not I I) (Dm I (Dx I (Dx I (Dx I (Dx I (Dx I (Dx I (Dx I (Dx I (Dx I (Dx I (d_t I (e_q I I (q_pick_f I I I) (d_t I (e_q I I (q_assign I I) (d_nil (Kt (c_ret (r_one I I ?_))))))))))))))))))))
  exact fun _ h => ⟨(), rfl, trivial, h⟩
theorem hanswer (bH bt : Nat) (vh vT vO vE : Value) (sq pk : Int) (ev : List Evt) (hev : ev.length ≤ 60000) (b nx : Nat) (hnx : nx ≤ 1000) (t : Int) (vo p1 p2 : Value) (a : Ans) : Con Tryz.prog 79 [ptV bH, .int .i64 t, ptV b, .agg a.c.toArray] (fun _ => True) [HSE bH vh bt vT vO vE sq pk, rowE vE 71 Evt.enc ev, CLE b vo nx [p1, p2]] (fun v : Value => .tuple #[]) (fun _ => True) (fun v => [HSE bH vh bt vT vO v sq pk, rowE v 71 Evt.enc (ev ++ [⟨t, (nx : Int), true, a⟩]), CLE b vo (nx + 1) [.pointer none, .pointer none]]) := by
  intro w hE hH
  refine enter (n := 37) (vs := [ptV bH, .int .i64 t, ptV b, .agg a.c.toArray]) (St w (dom [HSE bH vh bt vT vO vE sq pk, rowE vE 71 Evt.enc ev, CLE b vo nx [p1, p2]]) [HSE bH vh bt vT vO vE sq pk, rowE vE 71 Evt.enc ev, CLE b vo nx [p1, p2]]) func79 I I I (St.init hH) ?_
  refine Cs I (l_e I (e_box I I I I ?_))
  intro ba
  refine cells_eq (show _ = a.c from I) (Ns (D8 [(0,O),(1,O),(2,O),(3,O),(4,O),(5,O),(6,O),(7,O),(8,O),(9,O),(10,O),(11,O),(12,V),(13,V),(14,W),(15,W),(16,W)] [14, 15, 16] [(_,O),(_,O),(_,O),(_,O),(_,O),(_,O),(_,O),(_,O),(_,O),(_,O),(_,O),(_,O),(_,V),(_,V),(_,W),(_,W),(_,W)] (fun w2 => (HSE bH vh bt vT vO vE sq pk).at w2 ∧ (CLE b vo nx [p1, p2]).at w2 ∧ (cellsE ba 58 a.c).at w2) I I I I St.drawn (fun _ h => ⟨h.at 1 rfl, h.at 3 rfl, h.at 0 rfl⟩) (Dm I (Dm I (Dc I (Dfa U100 I Z34 I (Dq I (q_loadC I isAgg34 I (fun _ h => h.1) I) (Dm I (Dm I (Dc I (Dfa U125 I Z3 I (Dq I (q_loadC I G3 I (fun _ h => h.2.1) I) (Dq I (q_loadCAgg (a.c) I isAgg58 Z58 I (fun _ h => h.2.2) (List.take_of_length_le (by rw [List.drop_zero, Ans.c_len]; decide)) (Ans.c_len _)) (Dq I (q_build (Evt.c ⟨t, (nx : Int), true, a⟩) I I (bev t (nx : Int) a)) (d_e I (e_buildSliceV (sz := 22) [.tmp 19] I I I I I U34 Z71 I zeroValue71 (by simp [Value.cells, Evt.c_len]) ?_))))))))))))))))
  intro b2
  refine d_held (fun _ h => ⟨h.at 2 rfl, h.at 4 rfl, h.at 1 rfl⟩) (pull3 (d_e I (e_append I I I U34 U34 info71 I I I I I (fun _ h => lit_rd (h.at 1 I) Evt.enc [(⟨t, (nx : Int), true, a⟩ : Evt)] I I) (by simp only [byt71, List.length_append, List.length_cons, List.length_nil]; omega) (by simp only [List.length_append, List.length_cons, List.length_nil]; omega) ?_)))
  intro v2
  refine pull1 (drop0 (d_held (fun _ h => ⟨h.at 2 rfl, h.at 3 rfl, h.at 1 rfl⟩) (d_t I (e_q I I (q_nilCheck I I) (d_t I (e_q I I (q_fieldAddr I U100 I Z34 I I) (Pre.fact (fun _ h => row_sl (h.at 0 I)) ?_)))))))
  rintro ⟨av, cv, hv2⟩
  refine pull2 (d_t I (e_store I I Z34 I I (by rw [hv2]; rfl) (Nat.le_of_ble_eq_true I) (cells_eq (show _ = [vh, ptV bt, vT, vO, v2, .int .u64 sq, .int .i64 pk] from I) (d_nil (Kt (Cs I (Lm I (Lm I (Lc I (Lfa U125 I Z122 I (pull3 (l_e I (e_store I I Z122 I I I (Nat.le_of_ble_eq_true I) (cells_eq (show _ = [vo, .int .i64 (nx : Int), .pointer none, p2] from I) (Lc I (Lfa U125 I Z123 I (l_e I (e_store I I Z123 I I I (Nat.le_of_ble_eq_true I) (cells_eq (show _ = [vo, .int .i64 (nx : Int), .pointer none, .pointer none] from I) (Nk (Cr I (Lm I (Lc I ?_)))))))))))))))))))))))
  refine Lfa U125 I Z3 I (Lo G3 0 I (Lq I (q_inc I I I (by omega)) (Lc I (Lfa U125 I Z3 I (l_e I (e_store I I Z3 I I I (Nat.le_of_ble_eq_true I) (cells_eq (show _ = [vo, .int .i64 ((nx + 1 : Nat) : Int), .pointer none, .pointer none] from I) (l_nil (r_normal (pull2 (pull2 (pull3 (drop0 (r_none I ?_))))))))))))))
  exact fun _ h => ⟨v2, rfl, trivial, h⟩
def m0 (o : Opn) : Ms := ⟨o.kind, 0, kOf o, kv0 16, 0, o.wk, by decide, by decide⟩
theorem mOf_put {o : Opn} (h : o.kind = 1) : mOf o = (m0 o).setVal (vOf o) := Ms.ext' rfl rfl rfl (by show (if o.kind = 1 then vOf o else kv0 16) = vOf o; rw [if_pos h]) (by show (if o.kind = 3 then o.by' else 0) = 0; rw [if_neg (by rw [h]; decide)])
theorem mOf_add {o : Opn} (h : o.kind = 3) : mOf o = (m0 o).setBy o.by' o.wb := Ms.ext' rfl rfl rfl (by show (if o.kind = 1 then vOf o else kv0 16) = kv0 16; rw [if_neg (by rw [h]; decide)]) (by show (if o.kind = 3 then o.by' else 0) = o.by'; rw [if_pos h])
theorem kOf_eq {o : Opn} (h : o.Ok) : (if h : o.key.size ≤ 8 then Value.tuple #[.agg (kof o.key h).c.toArray, .int .i64 0] else .tuple #[.agg (kc 0 z8).toArray, .int .i64 2]) = .tuple #[.agg (kOf o).c.toArray, .int .i64 0] := by
  unfold kOf
  rw [dif_pos h.k, dif_pos h.k]
theorem vOf_eq {o : Opn} (h : o.val.size ≤ 16) : vOf o = vof o.val h := by unfold vOf; rw [dif_pos h]
theorem wknew (t : Int) (k : Kv 8) : Con Tryz.prog 127 [.int .i64 t, .agg k.c.toArray] (fun _ => True) [] (fun bw : Nat => ptV bw) (fun _ => True) (fun bw => [WKE bw ⟨t, k, 1, false, kv0 16, false⟩]) := by
  intro w hE hH
  refine enter (n := 9) (vs := [.int .i64 t, .agg k.c.toArray]) (St w [] []) func127 I I I (St.init hH) ?_
  refine Cs I (l_e I (e_box I I I I ?_))
  intro bk
  refine cells_eq (show _ = k.c from I) (Ak I (Cs I (Lm I (Lq I (q_loadCAgg (k.c) I G77 Z77 I (Hat 0 I) (kv_whole _) (Kv.c_len _)) (Lq I (q_build (Wk.c ⟨t, k, 1, false, kv0 16, false⟩) I I (build_wk t k)) (l_e I (e_box I I I I ?_)))))))
  intro bw
  refine cells_eq (show _ = Wk.c ⟨t, k, 1, false, kv0 16, false⟩ from I) (Ak I (c_ret (pull1 (drop0 (r_one I I ?_)))))
  exact fun _ h => ⟨bw, rfl, trivial, h⟩
theorem wrnew (t : Int) (m : Ms) : Con Tryz.prog 128 [.int .i64 t, .agg m.c.toArray] (fun _ => True) [] (fun bw : Nat => ptV bw) (fun _ => True) (fun bw => [WRE bw ⟨t, m, 0, false, .pointer none, 0⟩]) := by
  intro w hE hH
  refine enter (n := 9) (vs := [.int .i64 t, .agg m.c.toArray]) (St w [] []) func128 I I I (St.init hH) ?_
  refine Cs I (l_e I (e_box I I I I ?_))
  intro bm
  refine cells_eq (show _ = m.c from I) (Ak I (Cs I (Lm I (Lq I (q_loadCAgg (m.c) I G154 Z154 I (Hat 0 I) (ms_whole _) (Ms.c_len _)) (Lq I (q_build (Wr.c ⟨t, m, 0, false, .pointer none, 0⟩) I I (build_wr t m)) (l_e I (e_box I I I I ?_)))))))
  intro bw
  refine cells_eq (show _ = Wr.c ⟨t, m, 0, false, .pointer none, 0⟩ from I) (Ak I (c_ret (pull1 (drop0 (r_one I I ?_)))))
  exact fun _ h => ⟨bw, rfl, trivial, h⟩
theorem hbegin1 (bH bt : Nat) (vh vT vO vE : Value) (sq pk : Int) (ev : List Evt) (hev : ev.length ≤ 60000) (b nx : Nat) (t : Int) (vo : Value) (ops : List Opn) {o : Opn} (hop : ops[nx]? = some o) (hol : ops.length ≤ 1000) (hok : o.Ok) (hkd : o.kind = 1) : Con Tryz.prog 81 [ptV bH, .int .i64 t, ptV b] (fun _ => True) [HSE bH vh bt vT vO vE sq pk, rowE vE 71 Evt.enc ev, CLE b vo nx [.pointer none, .pointer none], rowE vo 43 Opn.enc ops] (fun r : Value × Nat => .tuple #[]) (fun _ => True) (fun r => [HSE bH vh bt vT vO r.1 sq pk, rowE r.1 71 Evt.enc (ev ++ [(⟨t, (nx : Int), false, ans0⟩ : Evt)]), CLE b vo nx [.pointer none, ptV r.2], rowE vo 43 Opn.enc ops, WRE r.2 ⟨t, mOf o, 0, false, .pointer none, 0⟩]) := by
  intro w hE hH
  have hnl := (List.getElem?_eq_some_iff.1 hop).1
  refine enter (n := 90) (vs := [ptV bH, .int .i64 t, ptV b]) (St w (dom [HSE bH vh bt vT vO vE sq pk, rowE vE 71 Evt.enc ev, CLE b vo nx [.pointer none, .pointer none], rowE vo 43 Opn.enc ops]) [HSE bH vh bt vT vO vE sq pk, rowE vE 71 Evt.enc ev, CLE b vo nx [.pointer none, .pointer none], rowE vo 43 Opn.enc ops]) func81 I I I (St.init hH) ?_
  refine c_seq (D8 [(0,O),(1,O),(2,O),(3,O),(4,O),(5,O),(6,O),(7,O),(8,O),(9,O),(10,O),(11,V),(12,V),(13,W),(14,W),(15,W)] [13, 14, 15] [(_,O),(_,O),(_,O),(_,O),(_,O),(_,O),(_,O),(_,O),(_,O),(_,O),(_,O),(_,V),(_,V),(_,W),(_,W),(_,W)] (fun w2 => (HSE bH vh bt vT vO vE sq pk).at w2 ∧ (CLE b vo nx [.pointer none, .pointer none]).at w2) I I I I St.drawn (H2 0 2 I) (Dm I (Dm I (Dc I (Dfa U100 I Z34 I (Dq I (q_loadC I isAgg34 I (fun _ h => h.1) I) (Dm I (Dm I (Dc I (Dfa U125 I Z3 I (Dq I (q_loadC I G3 I (fun _ h => h.2) I) (Dq I (q_build (Evt.c (⟨t, (nx : Int), false, ans0⟩ : Evt)) I I (fun w => by kernel_rfl)) (d_e I (e_buildSliceV (sz := 22) [.tmp 20] I I I I I U34 Z71 I zeroValue71 (by simp [Value.cells, Evt.c_len]) ?_))))))))))))))
  intro b2
  refine d_held (H2 1 3 I) (pull2 (d_e I (e_append I I I U34 U34 info71 I I I I I (fun _ h => lit_rd (h.at 1 I) Evt.enc [(⟨t, (nx : Int), false, ans0⟩ : Evt)] I I) (by simp only [byt71, List.length_append, List.length_cons, List.length_nil]; omega) (by simp only [List.length_append, List.length_cons, List.length_nil]; omega) ?_)))
  intro v2
  refine pull1 (drop0 (d_held (H2 1 2 I) (d_t I (e_q I I (q_nilCheck I I) (d_t I (e_q I I (q_fieldAddr I U100 I Z34 I I) (Pre.fact (fun _ h => row_sl (h.at 0 I)) ?_)))))))
  rintro ⟨av, cv, hv2⟩
  refine pull1 (d_t I (e_store I I Z34 I I (by rw [hv2]; rfl) (Nat.le_of_ble_eq_true I) (cells_eq (show _ = [vh, ptV bt, vT, vO, v2, .int .u64 sq, .int .i64 pk] from I) (d_nil (Ks (D8 [(0,O),(1,O),(2,O),(3,O),(4,O),(5,O),(6,O),(7,O),(8,O),(9,O),(10,V),(11,W)] [11] [(_,O),(_,O),(_,O),(_,O),(_,O),(_,O),(_,O),(_,O),(_,O),(_,O),(_,V),(_,W)] (fun w2 => (CLE b vo nx [.pointer none, .pointer none]).at w2 ∧ RdV w2 vo Opn.enc ops) I I I I St.drawn (fun _ h => ⟨h.at 2 rfl, h.rd 3 rfl⟩) (Dm I (Dc I (Dfa U125 I Z40 I (Dq I (q_loadC I G40 I (fun _ h => h.1) I) (Dm I (Dc I (Dfa U125 I Z3 I (Dq I (q_loadC I G3 I (fun _ h => h.1) I) (Dq I (q_indexV nx I U40 Z43 I (fun _ h => h.2) I I (by omega)) (Dq I (q_loadVAgg nx I G43 Z43 I I (fun _ h => h.2) hop) (d_e I (e_alloc I I I zeroValue43 ?_))))))))))))))))))
  intro bo
  refine cells_eq (show _ = [.int .i64 0, .string ⟨#[]⟩, .string ⟨#[]⟩, .int .u64 0] from I) (d_held (fun _ h => ⟨h.at 3 rfl, h.rd 4 rfl⟩) (d_t I (e_storeAgg I I Z43 I I I (Opn.one o) (by show 0 + 4 ≤ 4; decide) (cells_eq (show _ = Opn.c o from Sep.splice_all I) (d_nil (Kt (Cs I (Lfa U43 I Z9 I (Lo G9 0 I (l_e I (e_call_00 (of_spec o.key (by have := hok.k; omega)) I I I call125 I Tt ?_)))))))))))
  intro _ _
  refine Sv' 38 (.tuple #[.agg (kOf o).c.toArray, .int .i64 0]) I (kOf_eq hok) (Lm I (Lq I (q_extract I I I) (Lq I (q_extract I I I) (l_e I (e_alloc I I I zeroValue77 ?_)))))
  intro bk
  refine cells_eq (show _ = (kv0 8).c from I) (l_e I (e_storeAgg I I Z77 I I (Kv.c_len _) (Kv.one _) (by simp only [Kv.c_len]; decide) (cells_eq (show _ = (kOf o).c from Sep.splice_all (by simp only [Kv.c_len])) (Ak I (Cs I (Lfa U43 I Z3 I (Lo G3 1 I (Lq I (q_loadCAgg ((kOf o).c) I G77 Z77 I (Hat 0 I) (kv_whole _) (Kv.c_len _)) (Lq I (q_build (Ms.c (m0 o)) I I (bmsg o.kind o.wk (kOf o))) (l_e I (e_alloc I I I zeroValue154 ?_)))))))))))
  intro bm
  refine cells_eq (show _ = ms0.c from I) (l_e I (e_storeAgg I I Z154 I I (Ms.c_len _) (Ms.one _) (by simp only [Ms.c_len]; decide) (cells_eq (show _ = Ms.c (m0 o) from Sep.splice_all (by simp only [Ms.c_len])) (Ns (Cs I (Lfa U43 I Z3 I (Lo G3 2 I (Lq I (q_eql I I I) (Lm I (Sb 48 true I (by first | rfl | (rw [hkd]; rfl)) (Lm I (Lq I (q_eql I I I) (Lq I (q_pick_t I I I) (Nk (Sb 51 true I (by first | rfl | (rw [hkd]; rfl)) (c_true I (Cr I (Lfa U43 I Z9 I (Lo G9 2 I (l_e I (e_call_00 (vof_con o.val (hok.v hkd)) I I I call126 I Tt ?_)))))))))))))))))))))
  intro _ _
  refine Lm I (Lq I (q_extract I I I) (Lq I (q_extract I I I) (Lfa U154 I Z56 I (l_e I (e_storeAgg I I Z56 I I (Kv.c_len _) (Kv.one _) (by rw [Kv.c_len, Ms.c_len]; decide) (cells_eq (Ms.set_val _ _) (Ak I (c_seq (Cs I (Lfa U43 I Z3 I (Lo G3 2 I (Lq I (q_eql I I I) (Nk (Sb 61 false I (by first | rfl | (rw [hkd]; rfl)) (c_false I (c_skip (Kt (c_block (Cs I (Lm I (Lq I (q_neq I I I) (Ak I (Sb 71 false I (by first | rfl | (rw [hkd]; rfl)) ?_)))))))))))))))))))))))
  refine c_false I (Cs I (Lfa U43 I Z3 I (Lo G3 2 I (Lq I (q_eql I I I) (Ak I (Sb 80 false I (by first | rfl | (rw [hkd]; rfl)) (c_false I (Cr I (Lm I (Lm I (Lq I (q_loadCAgg (((m0 o).setVal (vof o.val (hok.v hkd))).c) I G154 Z154 I (Hat 0 I) (ms_whole _) (Ms.c_len _)) (l_e I (e_call_01 (wrnew t ((m0 o).setVal (vof o.val (hok.v hkd)))) I I I call128 I Tt ?_)))))))))))))
  intro bw _
  refine Lc I (Lfa U125 I Z123 I ?_)
  rw [show ((m0 o).setVal (vof o.val (hok.v hkd))) = mOf o from by rw [mOf_put hkd, vOf_eq (hok.v hkd)]] 
  refine pull6 (l_e I (e_store I I Z123 I I I (Nat.le_of_ble_eq_true I) (cells_eq (show _ = [vo, .int .i64 (nx : Int), .pointer none, ptV bw] from I) (l_nil (k_block (r_normal (pull1 (pull7 (pull2 (pull7 (pull7 (pull7 (pull6 (pull7 (drop0 (drop0 (drop0 (r_none I ?_))))))))))))))))))
  exact fun _ h => ⟨(v2, bw), rfl, trivial, h⟩
theorem hbegin3 (bH bt : Nat) (vh vT vO vE : Value) (sq pk : Int) (ev : List Evt) (hev : ev.length ≤ 60000) (b nx : Nat) (t : Int) (vo : Value) (ops : List Opn) {o : Opn} (hop : ops[nx]? = some o) (hol : ops.length ≤ 1000) (hok : o.Ok) (hkd : o.kind = 3) : Con Tryz.prog 81 [ptV bH, .int .i64 t, ptV b] (fun _ => True) [HSE bH vh bt vT vO vE sq pk, rowE vE 71 Evt.enc ev, CLE b vo nx [.pointer none, .pointer none], rowE vo 43 Opn.enc ops] (fun r : Value × Nat => .tuple #[]) (fun _ => True) (fun r => [HSE bH vh bt vT vO r.1 sq pk, rowE r.1 71 Evt.enc (ev ++ [(⟨t, (nx : Int), false, ans0⟩ : Evt)]), CLE b vo nx [.pointer none, ptV r.2], rowE vo 43 Opn.enc ops, WRE r.2 ⟨t, mOf o, 0, false, .pointer none, 0⟩]) := by
  intro w hE hH
  have hnl := (List.getElem?_eq_some_iff.1 hop).1
  refine enter (n := 90) (vs := [ptV bH, .int .i64 t, ptV b]) (St w (dom [HSE bH vh bt vT vO vE sq pk, rowE vE 71 Evt.enc ev, CLE b vo nx [.pointer none, .pointer none], rowE vo 43 Opn.enc ops]) [HSE bH vh bt vT vO vE sq pk, rowE vE 71 Evt.enc ev, CLE b vo nx [.pointer none, .pointer none], rowE vo 43 Opn.enc ops]) func81 I I I (St.init hH) ?_
  refine c_seq (D8 [(0,O),(1,O),(2,O),(3,O),(4,O),(5,O),(6,O),(7,O),(8,O),(9,O),(10,O),(11,V),(12,V),(13,W),(14,W),(15,W)] [13, 14, 15] [(_,O),(_,O),(_,O),(_,O),(_,O),(_,O),(_,O),(_,O),(_,O),(_,O),(_,O),(_,V),(_,V),(_,W),(_,W),(_,W)] (fun w2 => (HSE bH vh bt vT vO vE sq pk).at w2 ∧ (CLE b vo nx [.pointer none, .pointer none]).at w2) I I I I St.drawn (H2 0 2 I) (Dm I (Dm I (Dc I (Dfa U100 I Z34 I (Dq I (q_loadC I isAgg34 I (fun _ h => h.1) I) (Dm I (Dm I (Dc I (Dfa U125 I Z3 I (Dq I (q_loadC I G3 I (fun _ h => h.2) I) (Dq I (q_build (Evt.c (⟨t, (nx : Int), false, ans0⟩ : Evt)) I I (fun w => by kernel_rfl)) (d_e I (e_buildSliceV (sz := 22) [.tmp 20] I I I I I U34 Z71 I zeroValue71 (by simp [Value.cells, Evt.c_len]) ?_))))))))))))))
  intro b2
  refine d_held (H2 1 3 I) (pull2 (d_e I (e_append I I I U34 U34 info71 I I I I I (fun _ h => lit_rd (h.at 1 I) Evt.enc [(⟨t, (nx : Int), false, ans0⟩ : Evt)] I I) (by simp only [byt71, List.length_append, List.length_cons, List.length_nil]; omega) (by simp only [List.length_append, List.length_cons, List.length_nil]; omega) ?_)))
  intro v2
  refine pull1 (drop0 (d_held (H2 1 2 I) (d_t I (e_q I I (q_nilCheck I I) (d_t I (e_q I I (q_fieldAddr I U100 I Z34 I I) (Pre.fact (fun _ h => row_sl (h.at 0 I)) ?_)))))))
  rintro ⟨av, cv, hv2⟩
  refine pull1 (d_t I (e_store I I Z34 I I (by rw [hv2]; rfl) (Nat.le_of_ble_eq_true I) (cells_eq (show _ = [vh, ptV bt, vT, vO, v2, .int .u64 sq, .int .i64 pk] from I) (d_nil (Ks (D8 [(0,O),(1,O),(2,O),(3,O),(4,O),(5,O),(6,O),(7,O),(8,O),(9,O),(10,V),(11,W)] [11] [(_,O),(_,O),(_,O),(_,O),(_,O),(_,O),(_,O),(_,O),(_,O),(_,O),(_,V),(_,W)] (fun w2 => (CLE b vo nx [.pointer none, .pointer none]).at w2 ∧ RdV w2 vo Opn.enc ops) I I I I St.drawn (fun _ h => ⟨h.at 2 rfl, h.rd 3 rfl⟩) (Dm I (Dc I (Dfa U125 I Z40 I (Dq I (q_loadC I G40 I (fun _ h => h.1) I) (Dm I (Dc I (Dfa U125 I Z3 I (Dq I (q_loadC I G3 I (fun _ h => h.1) I) (Dq I (q_indexV nx I U40 Z43 I (fun _ h => h.2) I I (by omega)) (Dq I (q_loadVAgg nx I G43 Z43 I I (fun _ h => h.2) hop) (d_e I (e_alloc I I I zeroValue43 ?_))))))))))))))))))
  intro bo
  refine cells_eq (show _ = [.int .i64 0, .string ⟨#[]⟩, .string ⟨#[]⟩, .int .u64 0] from I) (d_held (fun _ h => ⟨h.at 3 rfl, h.rd 4 rfl⟩) (d_t I (e_storeAgg I I Z43 I I I (Opn.one o) (by show 0 + 4 ≤ 4; decide) (cells_eq (show _ = Opn.c o from Sep.splice_all I) (d_nil (Kt (Cs I (Lfa U43 I Z9 I (Lo G9 0 I (l_e I (e_call_00 (of_spec o.key (by have := hok.k; omega)) I I I call125 I Tt ?_)))))))))))
  intro _ _
  refine Sv' 38 (.tuple #[.agg (kOf o).c.toArray, .int .i64 0]) I (kOf_eq hok) (Lm I (Lq I (q_extract I I I) (Lq I (q_extract I I I) (l_e I (e_alloc I I I zeroValue77 ?_)))))
  intro bk
  refine cells_eq (show _ = (kv0 8).c from I) (l_e I (e_storeAgg I I Z77 I I (Kv.c_len _) (Kv.one _) (by simp only [Kv.c_len]; decide) (cells_eq (show _ = (kOf o).c from Sep.splice_all (by simp only [Kv.c_len])) (Ak I (Cs I (Lfa U43 I Z3 I (Lo G3 1 I (Lq I (q_loadCAgg ((kOf o).c) I G77 Z77 I (Hat 0 I) (kv_whole _) (Kv.c_len _)) (Lq I (q_build (Ms.c (m0 o)) I I (bmsg o.kind o.wk (kOf o))) (l_e I (e_alloc I I I zeroValue154 ?_)))))))))))
  intro bm
  refine cells_eq (show _ = ms0.c from I) (l_e I (e_storeAgg I I Z154 I I (Ms.c_len _) (Ms.one _) (by simp only [Ms.c_len]; decide) (cells_eq (show _ = Ms.c (m0 o) from Sep.splice_all (by simp only [Ms.c_len])) (Ns (Cs I (Lfa U43 I Z3 I (Lo G3 2 I (Lq I (q_eql I I I) (Lm I (Sb 48 false I (by first | rfl | (rw [hkd]; rfl)) (Lx I (Lx I (Lq I (q_pick_f I I I) (Nk (c_false I (c_skip (Ks (Cs I (Lfa U43 I Z3 I (Lo G3 2 I (Lq I (q_eql I I I) (Nk (Sb 61 true I (by first | rfl | (rw [hkd]; rfl)) ?_)))))))))))))))))))))))
  refine c_true I (Cr I (Lfa U43 I Z41 I (Lo G41 2 I (Lfa U154 I Z41 I (l_e I (e_store I I Z41 I I I (by rw [Ms.c_len]; decide) (cells_eq (Ms.set_by _ _ o.wb) (Nk (c_block (Cs I (Lm I (Lq I (q_neq I I I) (Ak I (Sb 71 false I (by first | rfl | (rw [hkd]; rfl)) (c_false I (Cs I (Lfa U43 I Z3 I (Lo G3 2 I (Lq I (q_eql I I I) (Ak I (Sb 80 false I (by first | rfl | (rw [hkd]; rfl)) (c_false I (Cr I ?_)))))))))))))))))))))))
  refine Lm I (Lm I (Lq I (q_loadCAgg (((m0 o).setBy o.by' o.wb).c) I G154 Z154 I (Hat 0 I) (ms_whole _) (Ms.c_len _)) (l_e I (e_call_01 (wrnew t ((m0 o).setBy o.by' o.wb)) I I I call128 I Tt ?_))))
  intro bw _
  refine Lc I (Lfa U125 I Z123 I ?_)
  rw [show ((m0 o).setBy o.by' o.wb) = mOf o from by rw [mOf_add hkd]] 
  refine pull6 (l_e I (e_store I I Z123 I I I (Nat.le_of_ble_eq_true I) (cells_eq (show _ = [vo, .int .i64 (nx : Int), .pointer none, ptV bw] from I) (l_nil (k_block (r_normal (pull1 (pull7 (pull2 (pull7 (pull7 (pull7 (pull6 (pull7 (drop0 (drop0 (drop0 (r_none I ?_))))))))))))))))))
  exact fun _ h => ⟨(v2, bw), rfl, trivial, h⟩
theorem hbegin4 (bH bt : Nat) (vh vT vO vE : Value) (sq pk : Int) (ev : List Evt) (hev : ev.length ≤ 60000) (b nx : Nat) (t : Int) (vo : Value) (ops : List Opn) {o : Opn} (hop : ops[nx]? = some o) (hol : ops.length ≤ 1000) (hok : o.Ok) (hkd : o.kind = 4) : Con Tryz.prog 81 [ptV bH, .int .i64 t, ptV b] (fun _ => True) [HSE bH vh bt vT vO vE sq pk, rowE vE 71 Evt.enc ev, CLE b vo nx [.pointer none, .pointer none], rowE vo 43 Opn.enc ops] (fun r : Value × Nat => .tuple #[]) (fun _ => True) (fun r => [HSE bH vh bt vT vO r.1 sq pk, rowE r.1 71 Evt.enc (ev ++ [(⟨t, (nx : Int), false, ans0⟩ : Evt)]), CLE b vo nx [ptV r.2, .pointer none], rowE vo 43 Opn.enc ops, WKE r.2 ⟨t, kOf o, 1, false, kv0 16, false⟩]) := by
  intro w hE hH
  have hnl := (List.getElem?_eq_some_iff.1 hop).1
  refine enter (n := 90) (vs := [ptV bH, .int .i64 t, ptV b]) (St w (dom [HSE bH vh bt vT vO vE sq pk, rowE vE 71 Evt.enc ev, CLE b vo nx [.pointer none, .pointer none], rowE vo 43 Opn.enc ops]) [HSE bH vh bt vT vO vE sq pk, rowE vE 71 Evt.enc ev, CLE b vo nx [.pointer none, .pointer none], rowE vo 43 Opn.enc ops]) func81 I I I (St.init hH) ?_
  refine c_seq (D8 [(0,O),(1,O),(2,O),(3,O),(4,O),(5,O),(6,O),(7,O),(8,O),(9,O),(10,O),(11,V),(12,V),(13,W),(14,W),(15,W)] [13, 14, 15] [(_,O),(_,O),(_,O),(_,O),(_,O),(_,O),(_,O),(_,O),(_,O),(_,O),(_,O),(_,V),(_,V),(_,W),(_,W),(_,W)] (fun w2 => (HSE bH vh bt vT vO vE sq pk).at w2 ∧ (CLE b vo nx [.pointer none, .pointer none]).at w2) I I I I St.drawn (H2 0 2 I) (Dm I (Dm I (Dc I (Dfa U100 I Z34 I (Dq I (q_loadC I isAgg34 I (fun _ h => h.1) I) (Dm I (Dm I (Dc I (Dfa U125 I Z3 I (Dq I (q_loadC I G3 I (fun _ h => h.2) I) (Dq I (q_build (Evt.c (⟨t, (nx : Int), false, ans0⟩ : Evt)) I I (fun w => by kernel_rfl)) (d_e I (e_buildSliceV (sz := 22) [.tmp 20] I I I I I U34 Z71 I zeroValue71 (by simp [Value.cells, Evt.c_len]) ?_))))))))))))))
  intro b2
  refine d_held (H2 1 3 I) (pull2 (d_e I (e_append I I I U34 U34 info71 I I I I I (fun _ h => lit_rd (h.at 1 I) Evt.enc [(⟨t, (nx : Int), false, ans0⟩ : Evt)] I I) (by simp only [byt71, List.length_append, List.length_cons, List.length_nil]; omega) (by simp only [List.length_append, List.length_cons, List.length_nil]; omega) ?_)))
  intro v2
  refine pull1 (drop0 (d_held (H2 1 2 I) (d_t I (e_q I I (q_nilCheck I I) (d_t I (e_q I I (q_fieldAddr I U100 I Z34 I I) (Pre.fact (fun _ h => row_sl (h.at 0 I)) ?_)))))))
  rintro ⟨av, cv, hv2⟩
  refine pull1 (d_t I (e_store I I Z34 I I (by rw [hv2]; rfl) (Nat.le_of_ble_eq_true I) (cells_eq (show _ = [vh, ptV bt, vT, vO, v2, .int .u64 sq, .int .i64 pk] from I) (d_nil (Ks (D8 [(0,O),(1,O),(2,O),(3,O),(4,O),(5,O),(6,O),(7,O),(8,O),(9,O),(10,V),(11,W)] [11] [(_,O),(_,O),(_,O),(_,O),(_,O),(_,O),(_,O),(_,O),(_,O),(_,O),(_,V),(_,W)] (fun w2 => (CLE b vo nx [.pointer none, .pointer none]).at w2 ∧ RdV w2 vo Opn.enc ops) I I I I St.drawn (fun _ h => ⟨h.at 2 rfl, h.rd 3 rfl⟩) (Dm I (Dc I (Dfa U125 I Z40 I (Dq I (q_loadC I G40 I (fun _ h => h.1) I) (Dm I (Dc I (Dfa U125 I Z3 I (Dq I (q_loadC I G3 I (fun _ h => h.1) I) (Dq I (q_indexV nx I U40 Z43 I (fun _ h => h.2) I I (by omega)) (Dq I (q_loadVAgg nx I G43 Z43 I I (fun _ h => h.2) hop) (d_e I (e_alloc I I I zeroValue43 ?_))))))))))))))))))
  intro bo
  refine cells_eq (show _ = [.int .i64 0, .string ⟨#[]⟩, .string ⟨#[]⟩, .int .u64 0] from I) (d_held (fun _ h => ⟨h.at 3 rfl, h.rd 4 rfl⟩) (d_t I (e_storeAgg I I Z43 I I I (Opn.one o) (by show 0 + 4 ≤ 4; decide) (cells_eq (show _ = Opn.c o from Sep.splice_all I) (d_nil (Kt (Cs I (Lfa U43 I Z9 I (Lo G9 0 I (l_e I (e_call_00 (of_spec o.key (by have := hok.k; omega)) I I I call125 I Tt ?_)))))))))))
  intro _ _
  refine Sv' 38 (.tuple #[.agg (kOf o).c.toArray, .int .i64 0]) I (kOf_eq hok) (Lm I (Lq I (q_extract I I I) (Lq I (q_extract I I I) (l_e I (e_alloc I I I zeroValue77 ?_)))))
  intro bk
  refine cells_eq (show _ = (kv0 8).c from I) (l_e I (e_storeAgg I I Z77 I I (Kv.c_len _) (Kv.one _) (by simp only [Kv.c_len]; decide) (cells_eq (show _ = (kOf o).c from Sep.splice_all (by simp only [Kv.c_len])) (Ak I (Cs I (Lfa U43 I Z3 I (Lo G3 1 I (Lq I (q_loadCAgg ((kOf o).c) I G77 Z77 I (Hat 0 I) (kv_whole _) (Kv.c_len _)) (Lq I (q_build (Ms.c (m0 o)) I I (bmsg o.kind o.wk (kOf o))) (l_e I (e_alloc I I I zeroValue154 ?_)))))))))))
  intro bm
  refine cells_eq (show _ = ms0.c from I) (l_e I (e_storeAgg I I Z154 I I (Ms.c_len _) (Ms.one _) (by simp only [Ms.c_len]; decide) (cells_eq (show _ = Ms.c (m0 o) from Sep.splice_all (by simp only [Ms.c_len])) (Ns (Cs I (Lfa U43 I Z3 I (Lo G3 2 I (Lq I (q_eql I I I) (Lm I (Sb 48 false I (by first | rfl | (rw [hkd]; rfl)) (Lx I (Lx I (Lq I (q_pick_f I I I) (Nk (c_false I (c_skip (Ks (Cs I (Lfa U43 I Z3 I (Lo G3 2 I (Lq I (q_eql I I I) (Nk (Sb 61 false I (by first | rfl | (rw [hkd]; rfl)) ?_)))))))))))))))))))))))
  refine c_false I (c_skip (Kt (c_block (Cs I (Lm I (Lq I (q_neq I I I) (Ak I (Sb 71 false I (by first | rfl | (rw [hkd]; rfl)) (c_false I (Cs I (Lfa U43 I Z3 I (Lo G3 2 I (Lq I (q_eql I I I) (Ak I (Sb 80 true I (by first | rfl | (rw [hkd]; rfl)) (c_true I (Cr I (Lm I (Lm I (Lq I (q_loadCAgg ((kOf o).c) I G77 Z77 I (Hat 1 I) (kv_whole _) (Kv.c_len _)) (l_e I (e_call_01 (wknew t (kOf o)) I I I call127 I Tt ?_))))))))))))))))))))))
  intro bw _
  refine Lc I (Lfa U125 I Z122 I (pull6 (l_e I (e_store I I Z122 I I I (Nat.le_of_ble_eq_true I) (cells_eq (show _ = [vo, .int .i64 (nx : Int), ptV bw, .pointer none] from I) (l_nil (k_block (r_normal (pull1 (pull7 (pull2 (pull7 (pull7 (pull7 (pull6 (pull7 (drop0 (drop0 (drop0 (r_none I ?_))))))))))))))))))))
  exact fun _ h => ⟨(v2, bw), rfl, trivial, h⟩
theorem wkanswer (b : Nat) (t : Int) (k : Kv 8) (at0 : Int) (pin f : Bool) (v : Kv 16) : Con Tryz.prog 78 [ptV b] (fun _ => True) [WKE b (⟨t, k, at0, pin, v, f⟩ : Wk)] (fun _ : Unit => .tuple #[.agg v.c.toArray, .bool f]) (fun _ => True) (fun _ => [WKE b (⟨t, k, at0, pin, v, f⟩ : Wk)]) := by
  intro w hE hH
  refine enter (n := 12) (vs := [ptV b]) (St w (dom [WKE b (⟨t, k, at0, pin, v, f⟩ : Wk)]) [WKE b (⟨t, k, at0, pin, v, f⟩ : Wk)]) func78 I I I (St.init hH) ?_
  refine Cs I (l_e I (e_alloc I I I zeroValue56 ?_))
  intro bv
  refine cells_eq (show _ = (kv0 16).c from I) (Ak I (c_seq (D8 [(0,O),(1,O),(2,O),(3,O),(4,O),(5,O),(6,O),(7,O),(8,V),(9,W)] [9] [(_,O),(_,O),(_,O),(_,O),(_,O),(_,O),(_,O),(_,O),(_,V),(_,W)] (fun w2 => (WKE b (⟨t, k, at0, pin, v, f⟩ : Wk)).at w2) I I I I St.drawn (Hat 1 I) (Dm I (Dc I (Dfa U226 I Z56 I (Dq I (q_loadCAgg ((⟨t, k, at0, pin, v, f⟩ : Wk).v.c) I G56 Z56 I Ih (Wk.v_part _) (Kv.c_len _)) (Dm I (Dc I (Dfa U226 I Z4 I (Dq I (q_loadC I G4 I Ih (Wk.f_at _)) (d_e I (e_storeAgg I I Z56 I I (Kv.c_len _) (Kv.one _) (by simp only [Kv.c_len]; decide) (cells_eq (show _ = Kv.c v from Sep.splice_all (by simp only [Kv.c_len])) (d_held (Hat 1 I) (d_t I (e_q I I (q_assign I I) (d_nil (Kt (c_ret (pull1 (pull1 (r_res2 I (res_cellA I G56 Z56 (Hat 0 I) (Kv.c_len _)) (show Sep.look _ _ = some _ from I) ?_)))))))))))))))))))))))
  exact fun _ h => ⟨(), rfl, trivial, h.drop⟩
theorem cr1 {x : HQ} {L : Lf} {B : Nat} (h : LH x L B) {t : Int} (ht : tkB t = true) (hmay : L.mayH t = true) (bH bt : Nat) (vT vO vE : Value) (sq pk : Int) (ev : List Evt) (hev : ev.length ≤ 60000) (b nx bw br : Nat) (hnx : nx ≤ 1000) (vo : Value) (ops : List Opn) (o : Opn) (hB : B + 1 ≤ 60000) : Con Tryz.prog 39 [ptV bH, .int .i64 t, ptV b] (fun _ => True) (HSE bH (ptV x.bh) bt vT vO vE sq pk :: rowE vE 71 Evt.enc ev :: CLE b vo nx [ptV bw, .pointer none] :: rowE vo 43 Opn.enc ops :: WKE bw (⟨t, kOf o, 1, false, kv0 16, false⟩ : Wk) :: x.H) (fun y : HQ => .tuple #[]) (fun y => y.bh = x.bh ∧ LH y ((L.pin t).2) (B + 1)) (fun y => HSE bH (ptV x.bh) bt vT vO vE sq pk :: rowE vE 71 Evt.enc ev :: CLE b vo (nx) [ptV bw, .pointer none] :: rowE vo 43 Opn.enc ops :: WKE bw (⟨t, kOf o, (if (L.pin t).1 = 3 then 2 else 3), true, kv0 16, false⟩ : Wk) :: y.H) := by
  intro w hE hH
  refine enter (n := 83) (vs := [ptV bH, .int .i64 t, ptV b]) (St w (dom (HSE bH (ptV x.bh) bt vT vO vE sq pk :: rowE vE 71 Evt.enc ev :: CLE b vo nx [ptV bw, .pointer none] :: rowE vo 43 Opn.enc ops :: WKE bw (⟨t, kOf o, 1, false, kv0 16, false⟩ : Wk) :: x.H)) (HSE bH (ptV x.bh) bt vT vO vE sq pk :: rowE vE 71 Evt.enc ev :: CLE b vo nx [ptV bw, .pointer none] :: rowE vo 43 Opn.enc ops :: WKE bw (⟨t, kOf o, 1, false, kv0 16, false⟩ : Wk) :: x.H)) func39 I I I (St.init hH) ?_
  refine c_block (Cs I (Lm I (Lc I (Lfa U125 I Z122 I (Lo G122 2 I (Lq I (q_nep I U122 I I) (Ak I (Sb 15 true I (I) (c_true I (c_seq (D8 [(0,O),(1,O),(2,O),(3,O),(4,O),(5,O),(6,O),(7,O),(8,W)] [8] [(_,O),(_,O),(_,O),(_,O),(_,O),(_,O),(_,O),(_,O),(_,W)] (fun w2 => (HSE bH (ptV x.bh) bt vT vO vE sq pk).at w2 ∧ (CLE b vo nx [ptV bw, .pointer none]).at w2) I I I I St.drawn (H2 0 2 I) (Dm I (Dc I (Dfa U125 I Z122 I (Dq I (q_loadC I G122 I (fun _ h => h.2) I) (Dm I (Dc I (Dfa U100 I Z47 I (Dq I (q_loadC I G47 I (fun _ h => h.1) I) (d_t I (e_callH [_, _, _, _] (wkpin h ht hmay bw (kOf o) (kv0 16) false (may_ld hmay) hB) I I I call77 I Tt ?_)))))))))))))))))))))
  rintro y ⟨hbh, hy⟩
  refine Pre.world (St _ _ (_ :: _ :: _ :: _ :: _ :: HQ.H y)) Ih ?_
  refine d_nil (Kt (c_false I (c_skip (k_block (r_normal (r_none I ?_))))))
  exact fun _ hh => ⟨y, rfl, ⟨hbh, hy⟩, hh⟩
theorem cr2 {x : HQ} {L : Lf} {B : Nat} (h : LH x L B) {t : Int} (ht : tkB t = true) (hmay : L.mayH t = true) (bH bt : Nat) (vT vO vE : Value) (sq pk : Int) (ev : List Evt) (hev : ev.length ≤ 60000) (b nx bw br : Nat) (hnx : nx ≤ 1000) (vo : Value) (ops : List Opn) (o : Opn) (hr : L.rt = some t) (h1 : L.r.st = 1) : Con Tryz.prog 39 [ptV bH, .int .i64 t, ptV b] (fun _ => True) (HSE bH (ptV x.bh) bt vT vO vE sq pk :: rowE vE 71 Evt.enc ev :: CLE b vo nx [ptV bw, .pointer none] :: rowE vo 43 Opn.enc ops :: WKE bw (⟨t, kOf o, 2, true, kv0 16, false⟩ : Wk) :: x.H) (fun y : HQ => .tuple #[]) (fun y => y.bh = x.bh ∧ LH y (L.fill) (B)) (fun y => HSE bH (ptV x.bh) bt vT vO vE sq pk :: rowE vE 71 Evt.enc ev :: CLE b vo (nx) [ptV bw, .pointer none] :: rowE vo 43 Opn.enc ops :: WKE bw (⟨t, kOf o, 3, true, kv0 16, false⟩ : Wk) :: y.H) := by
  intro w hE hH
  refine enter (n := 83) (vs := [ptV bH, .int .i64 t, ptV b]) (St w (dom (HSE bH (ptV x.bh) bt vT vO vE sq pk :: rowE vE 71 Evt.enc ev :: CLE b vo nx [ptV bw, .pointer none] :: rowE vo 43 Opn.enc ops :: WKE bw (⟨t, kOf o, 2, true, kv0 16, false⟩ : Wk) :: x.H)) (HSE bH (ptV x.bh) bt vT vO vE sq pk :: rowE vE 71 Evt.enc ev :: CLE b vo nx [ptV bw, .pointer none] :: rowE vo 43 Opn.enc ops :: WKE bw (⟨t, kOf o, 2, true, kv0 16, false⟩ : Wk) :: x.H)) func39 I I I (St.init hH) ?_
  refine c_block (Cs I (Lm I (Lc I (Lfa U125 I Z122 I (Lo G122 2 I (Lq I (q_nep I U122 I I) (Ak I (Sb 15 true I (I) (c_true I (c_seq (D8 [(0,O),(1,O),(2,O),(3,O),(4,O),(5,O),(6,O),(7,O),(8,W)] [8] [(_,O),(_,O),(_,O),(_,O),(_,O),(_,O),(_,O),(_,O),(_,W)] (fun w2 => (HSE bH (ptV x.bh) bt vT vO vE sq pk).at w2 ∧ (CLE b vo nx [ptV bw, .pointer none]).at w2) I I I I St.drawn (H2 0 2 I) (Dm I (Dc I (Dfa U125 I Z122 I (Dq I (q_loadC I G122 I (fun _ h => h.2) I) (Dm I (Dc I (Dfa U100 I Z47 I (Dq I (q_loadC I G47 I (fun _ h => h.1) I) (d_t I (e_callH [_, _, _, _] (wkload h ht hmay bw (kOf o) (kv0 16) false hr h1) I I I call77 I Tt ?_)))))))))))))))))))))
  rintro y ⟨hbh, hy⟩
  refine Pre.world (St _ _ (_ :: _ :: _ :: _ :: _ :: HQ.H y)) Ih ?_
  refine d_nil (Kt (c_false I (c_skip (k_block (r_normal (r_none I ?_))))))
  exact fun _ hh => ⟨y, rfl, ⟨hbh, hy⟩, hh⟩
theorem cr3 {x : HQ} {L : Lf} {B : Nat} (h : LH x L B) {t : Int} (ht : tkB t = true) (hmay : L.mayH t = true) (bH bt : Nat) (vT vO vE : Value) (sq pk : Int) (ev : List Evt) (hev : ev.length ≤ 60000) (b nx bw br : Nat) (hnx : nx ≤ 1000) (vo : Value) (ops : List Opn) (o : Opn) (h2 : L.r.st = 2) (hB : B + 1 ≤ 60000) : Con Tryz.prog 39 [ptV bH, .int .i64 t, ptV b] (fun _ => True) (HSE bH (ptV x.bh) bt vT vO vE sq pk :: rowE vE 71 Evt.enc ev :: CLE b vo nx [ptV bw, .pointer none] :: rowE vo 43 Opn.enc ops :: WKE bw (⟨t, kOf o, 3, true, kv0 16, false⟩ : Wk) :: x.H) (fun y : HQ => .tuple #[]) (fun y => y.bh = x.bh ∧ LH y (L.take t false) (B + 1)) (fun y => HSE bH (ptV x.bh) bt vT vO vE sq pk :: rowE vE 71 Evt.enc ev :: CLE b vo (nx) [ptV bw, .pointer none] :: rowE vo 43 Opn.enc ops :: WKE bw (⟨t, kOf o, 5, true, kv0 16, false⟩ : Wk) :: y.H) := by
  intro w hE hH
  refine enter (n := 83) (vs := [ptV bH, .int .i64 t, ptV b]) (St w (dom (HSE bH (ptV x.bh) bt vT vO vE sq pk :: rowE vE 71 Evt.enc ev :: CLE b vo nx [ptV bw, .pointer none] :: rowE vo 43 Opn.enc ops :: WKE bw (⟨t, kOf o, 3, true, kv0 16, false⟩ : Wk) :: x.H)) (HSE bH (ptV x.bh) bt vT vO vE sq pk :: rowE vE 71 Evt.enc ev :: CLE b vo nx [ptV bw, .pointer none] :: rowE vo 43 Opn.enc ops :: WKE bw (⟨t, kOf o, 3, true, kv0 16, false⟩ : Wk) :: x.H)) func39 I I I (St.init hH) ?_
  refine c_block (Cs I (Lm I (Lc I (Lfa U125 I Z122 I (Lo G122 2 I (Lq I (q_nep I U122 I I) (Ak I (Sb 15 true I (I) (c_true I (c_seq (D8 [(0,O),(1,O),(2,O),(3,O),(4,O),(5,O),(6,O),(7,O),(8,W)] [8] [(_,O),(_,O),(_,O),(_,O),(_,O),(_,O),(_,O),(_,O),(_,W)] (fun w2 => (HSE bH (ptV x.bh) bt vT vO vE sq pk).at w2 ∧ (CLE b vo nx [ptV bw, .pointer none]).at w2) I I I I St.drawn (H2 0 2 I) (Dm I (Dc I (Dfa U125 I Z122 I (Dq I (q_loadC I G122 I (fun _ h => h.2) I) (Dm I (Dc I (Dfa U100 I Z47 I (Dq I (q_loadC I G47 I (fun _ h => h.1) I) (d_t I (e_callH [_, _, _, _] (wktake h ht hmay bw (kOf o) (kv0 16) false h2 hB) I I I call77 I Tt ?_)))))))))))))))))))))
  rintro y ⟨hbh, hy⟩
  refine Pre.world (St _ _ (_ :: _ :: _ :: _ :: _ :: HQ.H y)) Ih ?_
  refine d_nil (Kt (c_false I (c_skip (k_block (r_normal (r_none I ?_))))))
  exact fun _ hh => ⟨y, rfl, ⟨hbh, hy⟩, hh⟩
theorem cr5 {x : HQ} {L : Lf} {B : Nat} (h : LH x L B) {t : Int} (ht : tkB t = true) (hmay : L.mayH t = true) (bH bt : Nat) (vT vO vE : Value) (sq pk : Int) (ev : List Evt) (hev : ev.length ≤ 60000) (b nx bw br : Nat) (hnx : nx ≤ 1000) (vo : Value) (ops : List Opn) (o : Opn) (h2 : L.r.st = 2) (hhs : hasB L.la t = true) : Con Tryz.prog 39 [ptV bH, .int .i64 t, ptV b] (fun _ => True) (HSE bH (ptV x.bh) bt vT vO vE sq pk :: rowE vE 71 Evt.enc ev :: CLE b vo nx [ptV bw, .pointer none] :: rowE vo 43 Opn.enc ops :: WKE bw (⟨t, kOf o, 5, true, kv0 16, false⟩ : Wk) :: x.H) (fun r : Value × HQ => .tuple #[]) (fun r => r.2.bh = x.bh ∧ LH r.2 (L.leave t) B) (fun r => HSE bH (ptV x.bh) bt vT vO r.1 sq pk :: rowE r.1 71 Evt.enc (ev ++ [⟨t, (nx : Int), true, (⟨0, (lfind (lfe L) (kOf o)).2, (lfind (lfe L) (kOf o)).1⟩ : Ans)⟩]) :: CLE b vo (nx + 1) [.pointer none, .pointer none] :: rowE vo 43 Opn.enc ops :: HQ.H r.2) := by
  intro w hE hH
  refine enter (n := 83) (vs := [ptV bH, .int .i64 t, ptV b]) (St w (dom (HSE bH (ptV x.bh) bt vT vO vE sq pk :: rowE vE 71 Evt.enc ev :: CLE b vo nx [ptV bw, .pointer none] :: rowE vo 43 Opn.enc ops :: WKE bw (⟨t, kOf o, 5, true, kv0 16, false⟩ : Wk) :: x.H)) (HSE bH (ptV x.bh) bt vT vO vE sq pk :: rowE vE 71 Evt.enc ev :: CLE b vo nx [ptV bw, .pointer none] :: rowE vo 43 Opn.enc ops :: WKE bw (⟨t, kOf o, 5, true, kv0 16, false⟩ : Wk) :: x.H)) func39 I I I (St.init hH) ?_
  refine c_block (Cs I (Lm I (Lc I (Lfa U125 I Z122 I (Lo G122 2 I (Lq I (q_nep I U122 I I) (Ak I (Sb 15 true I (I) (c_true I (c_seq (D8 [(0,O),(1,O),(2,O),(3,O),(4,O),(5,O),(6,O),(7,O),(8,W)] [8] [(_,O),(_,O),(_,O),(_,O),(_,O),(_,O),(_,O),(_,O),(_,W)] (fun w2 => (HSE bH (ptV x.bh) bt vT vO vE sq pk).at w2 ∧ (CLE b vo nx [ptV bw, .pointer none]).at w2) I I I I St.drawn (H2 0 2 I) (Dm I (Dc I (Dfa U125 I Z122 I (Dq I (q_loadC I G122 I (fun _ h => h.2) I) (Dm I (Dc I (Dfa U100 I Z47 I (Dq I (q_loadC I G47 I (fun _ h => h.1) I) (d_t I (e_callH [_, _, _, _] (wklook h ht hmay bw (kOf o) (kv0 16) false h2 hhs) I I I call77 I Tt ?_)))))))))))))))))))))
  rintro y ⟨hbh, hy⟩
  refine Pre.world (St _ _ (_ :: _ :: _ :: _ :: _ :: HQ.H y)) Ih ?_
  refine d_nil (Kt (c_true I (Cs I (Lm I (Lc I (Lfa U125 I Z122 I (Lo G122 2 I (pull4 (l_e I (e_call_11 (wkanswer bw t (kOf o) 6 false (lfind (lfe L) (kOf o)).2 (lfind (lfe L) (kOf o)).1) I I I call78 I Tt ?_))))))))))
  intro _ _
  refine Lm I (Lq I (q_extract I I I) (Lq I (q_extract I I I) (l_e I (e_alloc I I I zeroValue56 ?_))))
  intro bv
  refine cells_eq (show _ = (kv0 16).c from I) (l_e I (e_storeAgg I I Z56 I I (Kv.c_len _) (Kv.one _) (by simp only [Kv.c_len]; decide) (cells_eq (show _ = Kv.c (lfind (lfe L) (kOf o)).1 from Sep.splice_all (by simp only [Kv.c_len])) (Ak I (Cr I (Lm I (Lm I (Lm I (Lm I (Lq I (q_loadCAgg ((lfind (lfe L) (kOf o)).1.c) I G56 Z56 I (Hat 0 I) (kv_whole _) (Kv.c_len _)) (Lq I (q_build (Ans.c (⟨0, (lfind (lfe L) (kOf o)).2, (lfind (lfe L) (kOf o)).1⟩ : Ans)) I I (bans (lfind (lfe L) (kOf o)).2 (lfind (lfe L) (kOf o)).1)) (pull4 (pull4 (pull4 (l_e I (e_call_33 (hanswer bH bt (ptV x.bh) vT vO vE sq pk ev hev b nx hnx t vo _ _ (⟨0, (lfind (lfe L) (kOf o)).2, (lfind (lfe L) (kOf o)).1⟩ : Ans)) I I I call79 I Tt ?_))))))))))))))))
  intro v2 _
  refine l_nil (k_block (r_normal (pull11 (pull11 (pull11 (pull11 (pull11 (pull11 (pull11 (pull9 (pull9 (pull9 (pull11 (pull11 (drop0 (drop0 (r_none I ?_)))))))))))))))))
  exact fun _ hh => ⟨(v2, y), rfl, ⟨hbh, hy⟩, hh⟩
theorem cw0 {x : HQ} {L : Lf} {B : Nat} (h : LH x L B) {t : Int} (ht : tkB t = true) (hmay : L.mayH t = true) (bH bt : Nat) (vT vO vE : Value) (sq pk : Int) (ev : List Evt) (hev : ev.length ≤ 60000) (b nx bw br : Nat) (hnx : nx ≤ 1000) (vo : Value) (ops : List Opn) (o : Opn) (hB : B + 1 ≤ 60000) : Con Tryz.prog 39 [ptV bH, .int .i64 t, ptV b] (fun _ => True) (HSE bH (ptV x.bh) bt vT vO vE sq pk :: rowE vE 71 Evt.enc ev :: CLE b vo nx [.pointer none, ptV bw] :: rowE vo 43 Opn.enc ops :: WRE bw (⟨t, mOf o, 0, false, (.pointer none), 0⟩ : Wr) :: x.H) (fun y : HQ => .tuple #[]) (fun y => y.bh = x.bh ∧ LH y ((L.pin t).2) (B + 1)) (fun y => HSE bH (ptV x.bh) bt vT vO vE sq pk :: rowE vE 71 Evt.enc ev :: CLE b vo (nx) [.pointer none, ptV bw] :: rowE vo 43 Opn.enc ops :: WRE bw (⟨t, mOf o, (if (L.pin t).1 = 3 then 1 else 2), true, (.pointer none), 0⟩ : Wr) :: HQ.H (y)) := by
  intro w hE hH
  refine enter (n := 83) (vs := [ptV bH, .int .i64 t, ptV b]) (St w (dom (HSE bH (ptV x.bh) bt vT vO vE sq pk :: rowE vE 71 Evt.enc ev :: CLE b vo nx [.pointer none, ptV bw] :: rowE vo 43 Opn.enc ops :: WRE bw (⟨t, mOf o, 0, false, (.pointer none), 0⟩ : Wr) :: x.H)) (HSE bH (ptV x.bh) bt vT vO vE sq pk :: rowE vE 71 Evt.enc ev :: CLE b vo nx [.pointer none, ptV bw] :: rowE vo 43 Opn.enc ops :: WRE bw (⟨t, mOf o, 0, false, (.pointer none), 0⟩ : Wr) :: x.H)) func39 I I I (St.init hH) ?_
  refine c_block (Cs I (Lm I (Lc I (Lfa U125 I Z122 I (Lo G122 2 I (Lq I (q_nep I U122 I I) (Ak I (Sb 15 false I (I) (c_false I (Cs I (Lm I (Lc I (Lfa U125 I Z123 I (Lo G123 2 I (Lq I (q_nep I U123 I I) (Ak I (Sb 45 true I (I) (c_true I (c_seq (D8 [(0,O),(1,O),(2,O),(3,O),(4,O),(5,O),(6,O),(7,O),(8,O),(9,O),(10,O),(11,O),(12,V),(13,O),(14,O),(15,O),(16,O),(17,O),(18,O),(19,W)] [19] [(_,O),(_,O),(_,O),(_,O),(_,O),(_,O),(_,O),(_,O),(_,O),(_,O),(_,O),(_,O),(_,V),(_,O),(_,O),(_,O),(_,O),(_,O),(_,O),(_,W)] (fun w2 => (HSE bH (ptV x.bh) bt vT vO vE sq pk).at w2 ∧ (CLE b vo nx [.pointer none, ptV bw]).at w2) I I I I St.drawn (H2 0 2 I) (Dm I (Dc I (Dfa U125 I Z123 I ?_)))))))))))))))))))))))
  refine Dq I (q_loadC I G123 I (fun _ h => h.2) I) (Dm I (Dc I (Dfa U100 I Z47 I (Dq I (q_loadC I G47 I (fun _ h => h.1) I) (Dm I (Dc I (Dfa U100 I Z41 I (Dq I (q_loadC I G41 I (fun _ h => h.1) I) (d_e I (e_callH [_, _, _, _] (wspin h ht hmay bw (mOf o) sq (may_ld hmay) hB) I I I call80 I Tt ?_))))))))))
  rintro y ⟨hbh, hy⟩
  refine Pre.world (St _ _ (_ :: _ :: _ :: _ :: _ :: HQ.H (y))) Ih ?_
  refine d_held (H2 0 2 I) (Dm I (Dq I (q_extract I I I) (Dq I (q_extract I I I) (Dq I (q_extract I I I) (Das I (Das I (d_t I (e_q I I (q_assign I I) (d_nil (Ks (Cs I (Lm I (Nk (c_false I (c_skip (Kt (Cs I (Lm I (Nk (c_false I (c_skip (k_block (r_normal ?_)))))))))))))))))))))))
  refine pull10 (pull10 (pull10 (pull10 (pull10 (pull10 (pull10 (pull10 (pull10 (pull10 (pull10 (r_none I ?_)))))))))))
  exact fun _ hh => ⟨y, rfl, ⟨hbh, hy⟩, hh⟩
theorem cw1 {x : HQ} {L : Lf} {B : Nat} (h : LH x L B) {t : Int} (ht : tkB t = true) (hmay : L.mayH t = true) (bH bt : Nat) (vT vO vE : Value) (sq pk : Int) (ev : List Evt) (hev : ev.length ≤ 60000) (b nx bw br : Nat) (hnx : nx ≤ 1000) (vo : Value) (ops : List Opn) (o : Opn) (hr : L.rt = some t) (h1 : L.r.st = 1) : Con Tryz.prog 39 [ptV bH, .int .i64 t, ptV b] (fun _ => True) (HSE bH (ptV x.bh) bt vT vO vE sq pk :: rowE vE 71 Evt.enc ev :: CLE b vo nx [.pointer none, ptV bw] :: rowE vo 43 Opn.enc ops :: WRE bw (⟨t, mOf o, 1, true, (.pointer none), 0⟩ : Wr) :: x.H) (fun y : HQ => .tuple #[]) (fun y => y.bh = x.bh ∧ LH y (L.fill) (B)) (fun y => HSE bH (ptV x.bh) bt vT vO vE sq pk :: rowE vE 71 Evt.enc ev :: CLE b vo (nx) [.pointer none, ptV bw] :: rowE vo 43 Opn.enc ops :: WRE bw (⟨t, mOf o, 2, true, (.pointer none), 0⟩ : Wr) :: HQ.H (y)) := by
  intro w hE hH
  refine enter (n := 83) (vs := [ptV bH, .int .i64 t, ptV b]) (St w (dom (HSE bH (ptV x.bh) bt vT vO vE sq pk :: rowE vE 71 Evt.enc ev :: CLE b vo nx [.pointer none, ptV bw] :: rowE vo 43 Opn.enc ops :: WRE bw (⟨t, mOf o, 1, true, (.pointer none), 0⟩ : Wr) :: x.H)) (HSE bH (ptV x.bh) bt vT vO vE sq pk :: rowE vE 71 Evt.enc ev :: CLE b vo nx [.pointer none, ptV bw] :: rowE vo 43 Opn.enc ops :: WRE bw (⟨t, mOf o, 1, true, (.pointer none), 0⟩ : Wr) :: x.H)) func39 I I I (St.init hH) ?_
  refine c_block (Cs I (Lm I (Lc I (Lfa U125 I Z122 I (Lo G122 2 I (Lq I (q_nep I U122 I I) (Ak I (Sb 15 false I (I) (c_false I (Cs I (Lm I (Lc I (Lfa U125 I Z123 I (Lo G123 2 I (Lq I (q_nep I U123 I I) (Ak I (Sb 45 true I (I) (c_true I (c_seq (D8 [(0,O),(1,O),(2,O),(3,O),(4,O),(5,O),(6,O),(7,O),(8,O),(9,O),(10,O),(11,O),(12,V),(13,O),(14,O),(15,O),(16,O),(17,O),(18,O),(19,W)] [19] [(_,O),(_,O),(_,O),(_,O),(_,O),(_,O),(_,O),(_,O),(_,O),(_,O),(_,O),(_,O),(_,V),(_,O),(_,O),(_,O),(_,O),(_,O),(_,O),(_,W)] (fun w2 => (HSE bH (ptV x.bh) bt vT vO vE sq pk).at w2 ∧ (CLE b vo nx [.pointer none, ptV bw]).at w2) I I I I St.drawn (H2 0 2 I) (Dm I (Dc I (Dfa U125 I Z123 I ?_)))))))))))))))))))))))
  refine Dq I (q_loadC I G123 I (fun _ h => h.2) I) (Dm I (Dc I (Dfa U100 I Z47 I (Dq I (q_loadC I G47 I (fun _ h => h.1) I) (Dm I (Dc I (Dfa U100 I Z41 I (Dq I (q_loadC I G41 I (fun _ h => h.1) I) (d_e I (e_callH [_, _, _, _] (wsload h ht hmay bw (mOf o) sq hr h1) I I I call80 I Tt ?_))))))))))
  rintro y ⟨hbh, hy⟩
  refine Pre.world (St _ _ (_ :: _ :: _ :: _ :: _ :: HQ.H (y))) Ih ?_
  refine d_held (H2 0 2 I) (Dm I (Dq I (q_extract I I I) (Dq I (q_extract I I I) (Dq I (q_extract I I I) (Das I (Das I (d_t I (e_q I I (q_assign I I) (d_nil (Ks (Cs I (Lm I (Nk (c_false I (c_skip (Kt (Cs I (Lm I (Nk (c_false I (c_skip (k_block (r_normal ?_)))))))))))))))))))))))
  refine pull10 (pull10 (pull10 (pull10 (pull10 (pull10 (pull10 (pull10 (pull10 (pull10 (pull10 (r_none I ?_)))))))))))
  exact fun _ hh => ⟨y, rfl, ⟨hbh, hy⟩, hh⟩
theorem cw2 {x : HQ} {L : Lf} {B : Nat} (h : LH x L B) {t : Int} (ht : tkB t = true) (hmay : L.mayH t = true) (bH bt : Nat) (vT vO vE : Value) (sq pk : Int) (ev : List Evt) (hev : ev.length ≤ 60000) (b nx bw br : Nat) (hnx : nx ≤ 1000) (vo : Value) (ops : List Opn) (o : Opn) (h2 : L.r.st = 2) (hB : B + 1 ≤ 60000) : Con Tryz.prog 39 [ptV bH, .int .i64 t, ptV b] (fun _ => True) (HSE bH (ptV x.bh) bt vT vO vE sq pk :: rowE vE 71 Evt.enc ev :: CLE b vo nx [.pointer none, ptV bw] :: rowE vo 43 Opn.enc ops :: WRE bw (⟨t, mOf o, 2, true, (.pointer none), 0⟩ : Wr) :: x.H) (fun y : HQ => .tuple #[]) (fun y => y.bh = x.bh ∧ LH y (L.take t true) (B + 1)) (fun y => HSE bH (ptV x.bh) bt vT vO vE sq pk :: rowE vE 71 Evt.enc ev :: CLE b vo (nx) [.pointer none, ptV bw] :: rowE vo 43 Opn.enc ops :: WRE bw (⟨t, mOf o, 3, true, (.pointer none), 0⟩ : Wr) :: HQ.H (y)) := by
  intro w hE hH
  refine enter (n := 83) (vs := [ptV bH, .int .i64 t, ptV b]) (St w (dom (HSE bH (ptV x.bh) bt vT vO vE sq pk :: rowE vE 71 Evt.enc ev :: CLE b vo nx [.pointer none, ptV bw] :: rowE vo 43 Opn.enc ops :: WRE bw (⟨t, mOf o, 2, true, (.pointer none), 0⟩ : Wr) :: x.H)) (HSE bH (ptV x.bh) bt vT vO vE sq pk :: rowE vE 71 Evt.enc ev :: CLE b vo nx [.pointer none, ptV bw] :: rowE vo 43 Opn.enc ops :: WRE bw (⟨t, mOf o, 2, true, (.pointer none), 0⟩ : Wr) :: x.H)) func39 I I I (St.init hH) ?_
  refine c_block (Cs I (Lm I (Lc I (Lfa U125 I Z122 I (Lo G122 2 I (Lq I (q_nep I U122 I I) (Ak I (Sb 15 false I (I) (c_false I (Cs I (Lm I (Lc I (Lfa U125 I Z123 I (Lo G123 2 I (Lq I (q_nep I U123 I I) (Ak I (Sb 45 true I (I) (c_true I (c_seq (D8 [(0,O),(1,O),(2,O),(3,O),(4,O),(5,O),(6,O),(7,O),(8,O),(9,O),(10,O),(11,O),(12,V),(13,O),(14,O),(15,O),(16,O),(17,O),(18,O),(19,W)] [19] [(_,O),(_,O),(_,O),(_,O),(_,O),(_,O),(_,O),(_,O),(_,O),(_,O),(_,O),(_,O),(_,V),(_,O),(_,O),(_,O),(_,O),(_,O),(_,O),(_,W)] (fun w2 => (HSE bH (ptV x.bh) bt vT vO vE sq pk).at w2 ∧ (CLE b vo nx [.pointer none, ptV bw]).at w2) I I I I St.drawn (H2 0 2 I) (Dm I (Dc I (Dfa U125 I Z123 I ?_)))))))))))))))))))))))
  refine Dq I (q_loadC I G123 I (fun _ h => h.2) I) (Dm I (Dc I (Dfa U100 I Z47 I (Dq I (q_loadC I G47 I (fun _ h => h.1) I) (Dm I (Dc I (Dfa U100 I Z41 I (Dq I (q_loadC I G41 I (fun _ h => h.1) I) (d_e I (e_callH [_, _, _, _] (wstake h ht hmay bw (mOf o) sq h2 hB) I I I call80 I Tt ?_))))))))))
  rintro y ⟨hbh, hy⟩
  refine Pre.world (St _ _ (_ :: _ :: _ :: _ :: _ :: HQ.H (y))) Ih ?_
  refine d_held (H2 0 2 I) (Dm I (Dq I (q_extract I I I) (Dq I (q_extract I I I) (Dq I (q_extract I I I) (Das I (Das I (d_t I (e_q I I (q_assign I I) (d_nil (Ks (Cs I (Lm I (Nk (c_false I (c_skip (Kt (Cs I (Lm I (Nk (c_false I (c_skip (k_block (r_normal ?_)))))))))))))))))))))))
  refine pull10 (pull10 (pull10 (pull10 (pull10 (pull10 (pull10 (pull10 (pull10 (pull10 (pull10 (r_none I ?_)))))))))))
  exact fun _ hh => ⟨y, rfl, ⟨hbh, hy⟩, hh⟩
theorem cw3y {x : HQ} {L : Lf} {B : Nat} (h : LH x L B) {t : Int} (ht : tkB t = true) (hmay : L.mayH t = true) (bH bt : Nat) (vT vO vE : Value) (sq pk : Int) (ev : List Evt) (hev : ev.length ≤ 60000) (b nx bw br : Nat) (hnx : nx ≤ 1000) (vo : Value) (ops : List Opn) (o : Opn) (hsq : (Lit.int .u64 sq).wf = true) (hmk : kck (mOf o).key = true) (h2 : L.r.st = 2) (hw : L.la.wr = t) (hhs : hasB L.la t = true) (hf : fitL (lfd (lput (lfe L) (mOf o))) = true) : Con Tryz.prog 39 [ptV bH, .int .i64 t, ptV b] (fun _ => True) (HSE bH (ptV x.bh) bt vT vO vE sq pk :: rowE vE 71 Evt.enc ev :: CLE b vo nx [.pointer none, ptV bw] :: rowE vo 43 Opn.enc ops :: WRE bw (⟨t, mOf o, 3, true, (.pointer none), 0⟩ : Wr) :: x.H) (fun r : Value × HQ => .tuple #[]) (fun r => r.2.bh = x.bh ∧ LH r.2 ((L.setN (lput (lfe L) (mOf o))).leave t) B) (fun r => HSE bH (ptV x.bh) bt vT vO r.1 (IntKind.u64.wrap (sq + 1)) pk :: rowE r.1 71 Evt.enc (ev ++ [⟨t, (nx : Int), true, (⟨0, false, kv0 16⟩ : Ans)⟩]) :: CLE b vo (nx + 1) [.pointer none, .pointer none] :: rowE vo 43 Opn.enc ops :: HQ.H r.2) := by
  intro w hE hH
  refine enter (n := 83) (vs := [ptV bH, .int .i64 t, ptV b]) (St w (dom (HSE bH (ptV x.bh) bt vT vO vE sq pk :: rowE vE 71 Evt.enc ev :: CLE b vo nx [.pointer none, ptV bw] :: rowE vo 43 Opn.enc ops :: WRE bw (⟨t, mOf o, 3, true, (.pointer none), 0⟩ : Wr) :: x.H)) (HSE bH (ptV x.bh) bt vT vO vE sq pk :: rowE vE 71 Evt.enc ev :: CLE b vo nx [.pointer none, ptV bw] :: rowE vo 43 Opn.enc ops :: WRE bw (⟨t, mOf o, 3, true, (.pointer none), 0⟩ : Wr) :: x.H)) func39 I I I (St.init hH) ?_
  refine c_block (Cs I (Lm I (Lc I (Lfa U125 I Z122 I (Lo G122 2 I (Lq I (q_nep I U122 I I) (Ak I (Sb 15 false I (I) (c_false I (Cs I (Lm I (Lc I (Lfa U125 I Z123 I (Lo G123 2 I (Lq I (q_nep I U123 I I) (Ak I (Sb 45 true I (I) (c_true I (c_seq (D8 [(0,O),(1,O),(2,O),(3,O),(4,O),(5,O),(6,O),(7,O),(8,O),(9,O),(10,O),(11,O),(12,V),(13,O),(14,O),(15,O),(16,O),(17,O),(18,O),(19,W)] [19] [(_,O),(_,O),(_,O),(_,O),(_,O),(_,O),(_,O),(_,O),(_,O),(_,O),(_,O),(_,O),(_,V),(_,O),(_,O),(_,O),(_,O),(_,O),(_,O),(_,W)] (fun w2 => (HSE bH (ptV x.bh) bt vT vO vE sq pk).at w2 ∧ (CLE b vo nx [.pointer none, ptV bw]).at w2) I I I I St.drawn (H2 0 2 I) (Dm I (Dc I (Dfa U125 I Z123 I ?_)))))))))))))))))))))))
  refine Dq I (q_loadC I G123 I (fun _ h => h.2) I) (Dm I (Dc I (Dfa U100 I Z47 I (Dq I (q_loadC I G47 I (fun _ h => h.1) I) (Dm I (Dc I (Dfa U100 I Z41 I (Dq I (q_loadC I G41 I (fun _ h => h.1) I) (d_e I (e_callH [_, _, _, _] (wsyes h ht hmay bw (mOf o) sq hsq hmk h2 hw hhs hf) I I I call80 I Tt ?_))))))))))
  rintro y ⟨hbh, hy⟩
  refine Pre.world (St _ _ (_ :: _ :: _ :: _ :: _ :: HQ.H (y))) Ih ?_
  refine d_held (H2 0 2 I) (Dm I (Dq I (q_extract I I I) (Dq I (q_extract I I I) (Dq I (q_extract I I I) (Das I (Das I (d_t I (e_q I I (q_assign I I) (d_nil (Ks (Cs I (Lm I (Nk (c_true I (Cr I (Lm I (Lc I (Lfa U100 I Z41 I (Lo G41 0 I (Lq I (q_add I I I) (Lc I (Lfa U100 I Z41 I (l_e I ?_)))))))))))))))))))))))
  refine e_store I I Z41 I I I (Nat.le_of_ble_eq_true I) (cells_eq (show _ = [ptV x.bh, ptV bt, vT, vO, vE, .int .u64 (IntKind.u64.wrap (sq + 1)), .int .i64 pk] from I) (Nk (Cs I (Lm I (Nk (c_true I (Cr I (Lm I (Lm I (Lm I (Lm I (Lq I (q_build (Ans.c (⟨0, false, kv0 16⟩ : Ans)) I I (fun w => by kernel_rfl)) (pull2 (pull2 (pull2 (l_e I (e_call_33 (hanswer bH bt (ptV x.bh) vT vO vE (IntKind.u64.wrap (sq + 1)) pk ev hev b nx hnx t vo _ _ (⟨0, false, kv0 16⟩ : Ans)) I I I call79 I Tt ?_)))))))))))))))))
  intro v2 _
  refine l_nil (k_block (r_normal (pull10 (pull10 (pull10 (pull10 (pull10 (pull10 (pull9 (pull9 (pull9 (pull9 (pull10 (drop0 (r_none I ?_)))))))))))))))
  exact fun _ hh => ⟨(v2, y), rfl, ⟨hbh, hy⟩, hh⟩
theorem cw3n {x : HQ} {L : Lf} {B : Nat} (h : LH x L B) {t : Int} (ht : tkB t = true) (hmay : L.mayH t = true) (bH bt : Nat) (vT vO vE : Value) (sq pk : Int) (ev : List Evt) (hev : ev.length ≤ 60000) (b nx bw br : Nat) (hnx : nx ≤ 1000) (vo : Value) (ops : List Opn) (o : Opn) (hsq : (Lit.int .u64 sq).wf = true) (hmk : kck (mOf o).key = true) (h2 : L.r.st = 2) (hw : L.la.wr = t) (hf : fitL (lfd (lput (lfe L) (mOf o))) = false) : Con Tryz.prog 39 [ptV bH, .int .i64 t, ptV b] (fun _ => True) (HSE bH (ptV x.bh) bt vT vO vE sq pk :: rowE vE 71 Evt.enc ev :: CLE b vo nx [.pointer none, ptV bw] :: rowE vo 43 Opn.enc ops :: WRE bw (⟨t, mOf o, 3, true, (.pointer none), 0⟩ : Wr) :: x.H) (fun brn : Nat => .tuple #[]) (fun _ => True) (fun brn => HSE bH (ptV x.bh) bt vT vO vE sq pk :: rowE vE 71 Evt.enc ev :: CLE b vo (nx) [.pointer none, ptV bw] :: rowE vo 43 Opn.enc ops :: RME brn t 1 true 0 :: WRE bw (⟨t, mOf o, 4, true, (ptV brn), 0⟩ : Wr) :: HQ.H (x)) := by
  intro w hE hH
  refine enter (n := 83) (vs := [ptV bH, .int .i64 t, ptV b]) (St w (dom (HSE bH (ptV x.bh) bt vT vO vE sq pk :: rowE vE 71 Evt.enc ev :: CLE b vo nx [.pointer none, ptV bw] :: rowE vo 43 Opn.enc ops :: WRE bw (⟨t, mOf o, 3, true, (.pointer none), 0⟩ : Wr) :: x.H)) (HSE bH (ptV x.bh) bt vT vO vE sq pk :: rowE vE 71 Evt.enc ev :: CLE b vo nx [.pointer none, ptV bw] :: rowE vo 43 Opn.enc ops :: WRE bw (⟨t, mOf o, 3, true, (.pointer none), 0⟩ : Wr) :: x.H)) func39 I I I (St.init hH) ?_
  refine c_block (Cs I (Lm I (Lc I (Lfa U125 I Z122 I (Lo G122 2 I (Lq I (q_nep I U122 I I) (Ak I (Sb 15 false I (I) (c_false I (Cs I (Lm I (Lc I (Lfa U125 I Z123 I (Lo G123 2 I (Lq I (q_nep I U123 I I) (Ak I (Sb 45 true I (I) (c_true I (c_seq (D8 [(0,O),(1,O),(2,O),(3,O),(4,O),(5,O),(6,O),(7,O),(8,O),(9,O),(10,O),(11,O),(12,V),(13,O),(14,O),(15,O),(16,O),(17,O),(18,O),(19,W)] [19] [(_,O),(_,O),(_,O),(_,O),(_,O),(_,O),(_,O),(_,O),(_,O),(_,O),(_,O),(_,O),(_,V),(_,O),(_,O),(_,O),(_,O),(_,O),(_,O),(_,W)] (fun w2 => (HSE bH (ptV x.bh) bt vT vO vE sq pk).at w2 ∧ (CLE b vo nx [.pointer none, ptV bw]).at w2) I I I I St.drawn (H2 0 2 I) (Dm I (Dc I (Dfa U125 I Z123 I ?_)))))))))))))))))))))))
  refine Dq I (q_loadC I G123 I (fun _ h => h.2) I) (Dm I (Dc I (Dfa U100 I Z47 I (Dq I (q_loadC I G47 I (fun _ h => h.1) I) (Dm I (Dc I (Dfa U100 I Z41 I (Dq I (q_loadC I G41 I (fun _ h => h.1) I) (d_e I (e_callH [_, _, _, _] (wsno h ht hmay bw (mOf o) sq hsq hmk h2 hw hf) I I I call80 I Tt ?_))))))))))
  intro brn _
  refine Pre.world (St _ _ (_ :: _ :: _ :: _ :: _ :: _ :: HQ.H (x))) Ih ?_
  refine d_held (H2 0 2 I) (Dm I (Dq I (q_extract I I I) (Dq I (q_extract I I I) (Dq I (q_extract I I I) (Das I (Das I (d_t I (e_q I I (q_assign I I) (d_nil (Ks (Cs I (Lm I (Nk (c_false I (c_skip (Kt (Cs I (Lm I (Nk (c_false I (c_skip (k_block (r_normal ?_)))))))))))))))))))))))
  refine pull11 (pull11 (pull11 (pull11 (pull11 (pull11 (pull11 (pull11 (pull11 (pull11 (pull11 (pull11 (r_none I ?_))))))))))))
  exact fun _ hh => ⟨brn, rfl, trivial, hh⟩
theorem cb1 {x : HQ} {L : Lf} {B : Nat} (h : LH x L B) {t : Int} (ht : tkB t = true) (hmay : L.mayH t = true) (bH bt : Nat) (vT vO vE : Value) (sq pk : Int) (ev : List Evt) (hev : ev.length ≤ 60000) (b nx bw br : Nat) (hnx : nx ≤ 1000) (vo : Value) (ops : List Opn) (o : Opn) (h2 : L.r.st = 2) (hlen : 2 ≤ L.r.nd.es.length) : Con Tryz.prog 39 [ptV bH, .int .i64 t, ptV b] (fun _ => True) (HSE bH (ptV x.bh) bt vT vO vE sq pk :: rowE vE 71 Evt.enc ev :: CLE b vo nx [.pointer none, ptV bw] :: rowE vo 43 Opn.enc ops :: cellsE br 249 (rmC t 1 0 true false true 0) :: WRE bw (⟨t, mOf o, 4, true, (ptV br), 0⟩ : Wr) :: x.H) (fun _u : Unit => .tuple #[]) (fun _ => True) (fun _u => HSE bH (ptV x.bh) bt vT vO vE sq pk :: rowE vE 71 Evt.enc ev :: CLE b vo (nx) [.pointer none, ptV bw] :: rowE vo 43 Opn.enc ops :: cellsE br 249 (rmC t 6 0 true false true 0) :: WRE bw (⟨t, mOf o, 4, true, (ptV br), 0⟩ : Wr) :: HQ.H (x)) := by
  intro w hE hH
  refine enter (n := 83) (vs := [ptV bH, .int .i64 t, ptV b]) (St w (dom (HSE bH (ptV x.bh) bt vT vO vE sq pk :: rowE vE 71 Evt.enc ev :: CLE b vo nx [.pointer none, ptV bw] :: rowE vo 43 Opn.enc ops :: cellsE br 249 (rmC t 1 0 true false true 0) :: WRE bw (⟨t, mOf o, 4, true, (ptV br), 0⟩ : Wr) :: x.H)) (HSE bH (ptV x.bh) bt vT vO vE sq pk :: rowE vE 71 Evt.enc ev :: CLE b vo nx [.pointer none, ptV bw] :: rowE vo 43 Opn.enc ops :: cellsE br 249 (rmC t 1 0 true false true 0) :: WRE bw (⟨t, mOf o, 4, true, (ptV br), 0⟩ : Wr) :: x.H)) func39 I I I (St.init hH) ?_
  refine c_block (Cs I (Lm I (Lc I (Lfa U125 I Z122 I (Lo G122 2 I (Lq I (q_nep I U122 I I) (Ak I (Sb 15 false I (I) (c_false I (Cs I (Lm I (Lc I (Lfa U125 I Z123 I (Lo G123 2 I (Lq I (q_nep I U123 I I) (Ak I (Sb 45 true I (I) (c_true I (c_seq (D8 [(0,O),(1,O),(2,O),(3,O),(4,O),(5,O),(6,O),(7,O),(8,O),(9,O),(10,O),(11,O),(12,V),(13,O),(14,O),(15,O),(16,O),(17,O),(18,O),(19,W)] [19] [(_,O),(_,O),(_,O),(_,O),(_,O),(_,O),(_,O),(_,O),(_,O),(_,O),(_,O),(_,O),(_,V),(_,O),(_,O),(_,O),(_,O),(_,O),(_,O),(_,W)] (fun w2 => (HSE bH (ptV x.bh) bt vT vO vE sq pk).at w2 ∧ (CLE b vo nx [.pointer none, ptV bw]).at w2) I I I I St.drawn (H2 0 2 I) (Dm I (Dc I (Dfa U125 I Z123 I ?_)))))))))))))))))))))))
  refine Dq I (q_loadC I G123 I (fun _ h => h.2) I) (Dm I (Dc I (Dfa U100 I Z47 I (Dq I (q_loadC I G47 I (fun _ h => h.1) I) (Dm I (Dc I (Dfa U100 I Z41 I (Dq I (q_loadC I G41 I (fun _ h => h.1) I) (d_e I (e_callH [_, _, _, _] (wsb1 h ht hmay bw (mOf o) sq br h2 hlen) I I I call80 I Tt ?_))))))))))
  intro _ _
  refine Pre.world (St _ _ (_ :: _ :: _ :: _ :: _ :: _ :: HQ.H (x))) Ih ?_
  refine d_held (H2 0 2 I) (Dm I (Dq I (q_extract I I I) (Dq I (q_extract I I I) (Dq I (q_extract I I I) (Das I (Das I (d_t I (e_q I I (q_assign I I) (d_nil (Ks (Cs I (Lm I (Nk (c_false I (c_skip (Kt (Cs I (Lm I (Nk (c_false I (c_skip (k_block (r_normal ?_)))))))))))))))))))))))
  refine pull11 (pull11 (pull11 (pull11 (pull11 (pull11 (pull11 (pull11 (pull11 (pull11 (pull11 (pull11 (r_none I ?_))))))))))))
  exact fun _ hh => ⟨(), rfl, trivial, hh⟩
theorem cb6 {x : HQ} {L : Lf} {B : Nat} (h : LH x L B) {t : Int} (ht : tkB t = true) (hmay : L.mayH t = true) (bH bt : Nat) (vT vO vE : Value) (sq pk : Int) (ev : List Evt) (hev : ev.length ≤ 60000) (b nx bw br : Nat) (hnx : nx ≤ 1000) (vo : Value) (ops : List Opn) (o : Opn) (h2 : L.r.st = 2) (hB : B + 1 ≤ 60000) (hc : L.cl = 0 ∨ L.ct = t) (h1 : L.cl ≤ 1) : Con Tryz.prog 39 [ptV bH, .int .i64 t, ptV b] (fun _ => True) (HSE bH (ptV x.bh) bt vT vO vE sq pk :: rowE vE 71 Evt.enc ev :: CLE b vo nx [.pointer none, ptV bw] :: rowE vo 43 Opn.enc ops :: cellsE br 249 (rmC t 6 0 true false true 0) :: WRE bw (⟨t, mOf o, 4, true, (ptV br), 0⟩ : Wr) :: x.H) (fun y : HQ => .tuple #[]) (fun y => y.bh = x.bh ∧ LH y (L.claim t) (B + 1)) (fun y => HSE bH (ptV x.bh) bt vT vO vE sq pk :: rowE vE 71 Evt.enc ev :: CLE b vo (nx) [.pointer none, ptV bw] :: rowE vo 43 Opn.enc ops :: cellsE br 249 (rmC t 7 0 true false true 0) :: WRE bw (⟨t, mOf o, 4, true, (ptV br), 0⟩ : Wr) :: HQ.H (y)) := by
  intro w hE hH
  refine enter (n := 83) (vs := [ptV bH, .int .i64 t, ptV b]) (St w (dom (HSE bH (ptV x.bh) bt vT vO vE sq pk :: rowE vE 71 Evt.enc ev :: CLE b vo nx [.pointer none, ptV bw] :: rowE vo 43 Opn.enc ops :: cellsE br 249 (rmC t 6 0 true false true 0) :: WRE bw (⟨t, mOf o, 4, true, (ptV br), 0⟩ : Wr) :: x.H)) (HSE bH (ptV x.bh) bt vT vO vE sq pk :: rowE vE 71 Evt.enc ev :: CLE b vo nx [.pointer none, ptV bw] :: rowE vo 43 Opn.enc ops :: cellsE br 249 (rmC t 6 0 true false true 0) :: WRE bw (⟨t, mOf o, 4, true, (ptV br), 0⟩ : Wr) :: x.H)) func39 I I I (St.init hH) ?_
  refine c_block (Cs I (Lm I (Lc I (Lfa U125 I Z122 I (Lo G122 2 I (Lq I (q_nep I U122 I I) (Ak I (Sb 15 false I (I) (c_false I (Cs I (Lm I (Lc I (Lfa U125 I Z123 I (Lo G123 2 I (Lq I (q_nep I U123 I I) (Ak I (Sb 45 true I (I) (c_true I (c_seq (D8 [(0,O),(1,O),(2,O),(3,O),(4,O),(5,O),(6,O),(7,O),(8,O),(9,O),(10,O),(11,O),(12,V),(13,O),(14,O),(15,O),(16,O),(17,O),(18,O),(19,W)] [19] [(_,O),(_,O),(_,O),(_,O),(_,O),(_,O),(_,O),(_,O),(_,O),(_,O),(_,O),(_,O),(_,V),(_,O),(_,O),(_,O),(_,O),(_,O),(_,O),(_,W)] (fun w2 => (HSE bH (ptV x.bh) bt vT vO vE sq pk).at w2 ∧ (CLE b vo nx [.pointer none, ptV bw]).at w2) I I I I St.drawn (H2 0 2 I) (Dm I (Dc I (Dfa U125 I Z123 I ?_)))))))))))))))))))))))
  refine Dq I (q_loadC I G123 I (fun _ h => h.2) I) (Dm I (Dc I (Dfa U100 I Z47 I (Dq I (q_loadC I G47 I (fun _ h => h.1) I) (Dm I (Dc I (Dfa U100 I Z41 I (Dq I (q_loadC I G41 I (fun _ h => h.1) I) (d_e I (e_callH [_, _, _, _] (wsb2 h ht hmay bw (mOf o) sq br h2 hB (may_ld hmay) hc h1) I I I call80 I Tt ?_))))))))))
  rintro y ⟨hbh, hy⟩
  refine Pre.world (St _ _ (_ :: _ :: _ :: _ :: _ :: _ :: HQ.H (y))) Ih ?_
  refine d_held (H2 0 2 I) (Dm I (Dq I (q_extract I I I) (Dq I (q_extract I I I) (Dq I (q_extract I I I) (Das I (Das I (d_t I (e_q I I (q_assign I I) (d_nil (Ks (Cs I (Lm I (Nk (c_false I (c_skip (Kt (Cs I (Lm I (Nk (c_false I (c_skip (k_block (r_normal ?_)))))))))))))))))))))))
  refine pull11 (pull11 (pull11 (pull11 (pull11 (pull11 (pull11 (pull11 (pull11 (pull11 (pull11 (pull11 (r_none I ?_))))))))))))
  exact fun _ hh => ⟨y, rfl, ⟨hbh, hy⟩, hh⟩
theorem cb7 {x : HQ} {L : Lf} {B : Nat} (h : LH x L B) {t : Int} (ht : tkB t = true) (hmay : L.mayH t = true) (bH bt : Nat) (vT vO vE : Value) (sq pk : Int) (ev : List Evt) (hev : ev.length ≤ 60000) (b nx bw br : Nat) (hnx : nx ≤ 1000) (vo : Value) (ops : List Opn) (o : Opn) (h2 : L.r.st = 2) (hB : B + 1 ≤ 60000) (hc : L.cl = 0 ∨ L.ct = t) (h1 : L.cl ≤ 1) : Con Tryz.prog 39 [ptV bH, .int .i64 t, ptV b] (fun _ => True) (HSE bH (ptV x.bh) bt vT vO vE sq pk :: rowE vE 71 Evt.enc ev :: CLE b vo nx [.pointer none, ptV bw] :: rowE vo 43 Opn.enc ops :: cellsE br 249 (rmC t 7 0 true false true 0) :: WRE bw (⟨t, mOf o, 4, true, (ptV br), 0⟩ : Wr) :: x.H) (fun y : HQ => .tuple #[]) (fun y => y.bh = x.bh ∧ LH y (L.claim t) (B + 1)) (fun y => HSE bH (ptV x.bh) bt vT vO vE sq pk :: rowE vE 71 Evt.enc ev :: CLE b vo (nx) [.pointer none, ptV bw] :: rowE vo 43 Opn.enc ops :: cellsE br 249 (rmC t 10 0 true false true 0) :: WRE bw (⟨t, mOf o, 4, true, (ptV br), 0⟩ : Wr) :: HQ.H (y)) := by
  intro w hE hH
  refine enter (n := 83) (vs := [ptV bH, .int .i64 t, ptV b]) (St w (dom (HSE bH (ptV x.bh) bt vT vO vE sq pk :: rowE vE 71 Evt.enc ev :: CLE b vo nx [.pointer none, ptV bw] :: rowE vo 43 Opn.enc ops :: cellsE br 249 (rmC t 7 0 true false true 0) :: WRE bw (⟨t, mOf o, 4, true, (ptV br), 0⟩ : Wr) :: x.H)) (HSE bH (ptV x.bh) bt vT vO vE sq pk :: rowE vE 71 Evt.enc ev :: CLE b vo nx [.pointer none, ptV bw] :: rowE vo 43 Opn.enc ops :: cellsE br 249 (rmC t 7 0 true false true 0) :: WRE bw (⟨t, mOf o, 4, true, (ptV br), 0⟩ : Wr) :: x.H)) func39 I I I (St.init hH) ?_
  refine c_block (Cs I (Lm I (Lc I (Lfa U125 I Z122 I (Lo G122 2 I (Lq I (q_nep I U122 I I) (Ak I (Sb 15 false I (I) (c_false I (Cs I (Lm I (Lc I (Lfa U125 I Z123 I (Lo G123 2 I (Lq I (q_nep I U123 I I) (Ak I (Sb 45 true I (I) (c_true I (c_seq (D8 [(0,O),(1,O),(2,O),(3,O),(4,O),(5,O),(6,O),(7,O),(8,O),(9,O),(10,O),(11,O),(12,V),(13,O),(14,O),(15,O),(16,O),(17,O),(18,O),(19,W)] [19] [(_,O),(_,O),(_,O),(_,O),(_,O),(_,O),(_,O),(_,O),(_,O),(_,O),(_,O),(_,O),(_,V),(_,O),(_,O),(_,O),(_,O),(_,O),(_,O),(_,W)] (fun w2 => (HSE bH (ptV x.bh) bt vT vO vE sq pk).at w2 ∧ (CLE b vo nx [.pointer none, ptV bw]).at w2) I I I I St.drawn (H2 0 2 I) (Dm I (Dc I (Dfa U125 I Z123 I ?_)))))))))))))))))))))))
  refine Dq I (q_loadC I G123 I (fun _ h => h.2) I) (Dm I (Dc I (Dfa U100 I Z47 I (Dq I (q_loadC I G47 I (fun _ h => h.1) I) (Dm I (Dc I (Dfa U100 I Z41 I (Dq I (q_loadC I G41 I (fun _ h => h.1) I) (d_e I (e_callH [_, _, _, _] (wsb3 h ht hmay bw (mOf o) sq br h2 hB (may_ld hmay) hc h1) I I I call80 I Tt ?_))))))))))
  rintro y ⟨hbh, hy⟩
  refine Pre.world (St _ _ (_ :: _ :: _ :: _ :: _ :: _ :: HQ.H (y))) Ih ?_
  refine d_held (H2 0 2 I) (Dm I (Dq I (q_extract I I I) (Dq I (q_extract I I I) (Dq I (q_extract I I I) (Das I (Das I (d_t I (e_q I I (q_assign I I) (d_nil (Ks (Cs I (Lm I (Nk (c_false I (c_skip (Kt (Cs I (Lm I (Nk (c_false I (c_skip (k_block (r_normal ?_)))))))))))))))))))))))
  refine pull11 (pull11 (pull11 (pull11 (pull11 (pull11 (pull11 (pull11 (pull11 (pull11 (pull11 (pull11 (r_none I ?_))))))))))))
  exact fun _ hh => ⟨y, rfl, ⟨hbh, hy⟩, hh⟩
theorem cb10 {x : HQ} {L : Lf} {B : Nat} (h : LH x L B) {t : Int} (ht : tkB t = true) (hmay : L.mayH t = true) (bH bt : Nat) (vT vO vE : Value) (sq pk : Int) (ev : List Evt) (hev : ev.length ≤ 60000) (b nx bw br : Nat) (hnx : nx ≤ 1000) (vo : Value) (ops : List Opn) (o : Opn) (h2 : L.r.st = 2) (hcl : L.cl = 2) (hct : L.ct = t) (hls : L.s.left < 2) (hhs : hasB L.la t = true) : Con Tryz.prog 39 [ptV bH, .int .i64 t, ptV b] (fun _ => True) (HSE bH (ptV x.bh) bt vT vO vE sq pk :: rowE vE 71 Evt.enc ev :: CLE b vo nx [.pointer none, ptV bw] :: rowE vo 43 Opn.enc ops :: cellsE br 249 (rmC t 10 0 true false true 0) :: WRE bw (⟨t, mOf o, 4, true, (ptV br), 0⟩ : Wr) :: x.H) (fun r : Value × HQ => .tuple #[]) (fun r => r.2.bh = x.bh ∧ LH r.2 (L.give.leave t) B) (fun r => HSE bH (ptV x.bh) bt vT vO r.1 sq pk :: rowE r.1 71 Evt.enc (ev ++ [⟨t, (nx : Int), true, (⟨3, false, kv0 16⟩ : Ans)⟩]) :: CLE b vo (nx + 1) [.pointer none, .pointer none] :: rowE vo 43 Opn.enc ops :: HQ.H r.2) := by
  intro w hE hH
  refine enter (n := 83) (vs := [ptV bH, .int .i64 t, ptV b]) (St w (dom (HSE bH (ptV x.bh) bt vT vO vE sq pk :: rowE vE 71 Evt.enc ev :: CLE b vo nx [.pointer none, ptV bw] :: rowE vo 43 Opn.enc ops :: cellsE br 249 (rmC t 10 0 true false true 0) :: WRE bw (⟨t, mOf o, 4, true, (ptV br), 0⟩ : Wr) :: x.H)) (HSE bH (ptV x.bh) bt vT vO vE sq pk :: rowE vE 71 Evt.enc ev :: CLE b vo nx [.pointer none, ptV bw] :: rowE vo 43 Opn.enc ops :: cellsE br 249 (rmC t 10 0 true false true 0) :: WRE bw (⟨t, mOf o, 4, true, (ptV br), 0⟩ : Wr) :: x.H)) func39 I I I (St.init hH) ?_
  refine c_block (Cs I (Lm I (Lc I (Lfa U125 I Z122 I (Lo G122 2 I (Lq I (q_nep I U122 I I) (Ak I (Sb 15 false I (I) (c_false I (Cs I (Lm I (Lc I (Lfa U125 I Z123 I (Lo G123 2 I (Lq I (q_nep I U123 I I) (Ak I (Sb 45 true I (I) (c_true I (c_seq (D8 [(0,O),(1,O),(2,O),(3,O),(4,O),(5,O),(6,O),(7,O),(8,O),(9,O),(10,O),(11,O),(12,V),(13,O),(14,O),(15,O),(16,O),(17,O),(18,O),(19,W)] [19] [(_,O),(_,O),(_,O),(_,O),(_,O),(_,O),(_,O),(_,O),(_,O),(_,O),(_,O),(_,O),(_,V),(_,O),(_,O),(_,O),(_,O),(_,O),(_,O),(_,W)] (fun w2 => (HSE bH (ptV x.bh) bt vT vO vE sq pk).at w2 ∧ (CLE b vo nx [.pointer none, ptV bw]).at w2) I I I I St.drawn (H2 0 2 I) (Dm I (Dc I (Dfa U125 I Z123 I ?_)))))))))))))))))))))))
  refine Dq I (q_loadC I G123 I (fun _ h => h.2) I) (Dm I (Dc I (Dfa U100 I Z47 I (Dq I (q_loadC I G47 I (fun _ h => h.1) I) (Dm I (Dc I (Dfa U100 I Z41 I (Dq I (q_loadC I G41 I (fun _ h => h.1) I) (d_e I (e_callH [_, _, _, _] (wsb4 h ht hmay bw (mOf o) sq br h2 hcl hct hls hhs) I I I call80 I Tt ?_))))))))))
  rintro y ⟨hbh, hy⟩
  refine Pre.world (St _ _ (_ :: _ :: _ :: _ :: _ :: HQ.H (y))) Ih ?_
  refine d_held (H2 0 2 I) (Dm I (Dq I (q_extract I I I) (Dq I (q_extract I I I) (Dq I (q_extract I I I) (Das I (Das I (d_t I (e_q I I (q_assign I I) (d_nil (Ks (Cs I (Lm I (Nk (c_false I (c_skip (Kt (Cs I (Lm I (Nk (c_true I (Cr I (Lm I (Lm I ?_)))))))))))))))))))))))
  refine Lm I (Lm I (Lq I (q_build (Ans.c (⟨3, false, kv0 16⟩ : Ans)) I I (fun w => by kernel_rfl)) (pull2 (pull2 (pull2 (l_e I (e_call_33 (hanswer bH bt (ptV x.bh) vT vO vE sq pk ev hev b nx hnx t vo _ _ (⟨3, false, kv0 16⟩ : Ans)) I I I call79 I Tt ?_)))))))
  intro v2 _
  refine l_nil (k_block (r_normal (pull10 (pull10 (pull10 (pull10 (pull10 (pull10 (pull9 (pull9 (pull9 (pull9 (pull10 (drop0 (r_none I ?_)))))))))))))))
  exact fun _ hh => ⟨(v2, y), rfl, ⟨hbh, hy⟩, hh⟩
theorem ci1 {x : HQ} {L : Lf} {B : Nat} (h : LH x L B) (bH bt : Nat) (vT vO vE : Value) (sq pk : Int) (ev : List Evt) (hev : ev.length ≤ 60000) (b nx : Nat) (hnx : nx ≤ 1000) (vo : Value) (ops : List Opn) (t : Int) {o : Opn} (hop : ops[nx]? = some o) (hol : ops.length ≤ 1000) (hok : o.Ok) (hkd : o.kind = 1) : Con Tryz.prog 39 [ptV bH, .int .i64 t, ptV b] (fun _ => True) (HSE bH (ptV x.bh) bt vT vO vE sq pk :: rowE vE 71 Evt.enc ev :: CLE b vo nx [.pointer none, .pointer none] :: rowE vo 43 Opn.enc ops :: x.H) (fun r : Value × Nat => .tuple #[]) (fun _ => True) (fun r => HSE bH (ptV x.bh) bt vT vO r.1 sq pk :: rowE r.1 71 Evt.enc (ev ++ [(⟨t, (nx : Int), false, ans0⟩ : Evt)]) :: CLE b vo nx [.pointer none, ptV r.2] :: rowE vo 43 Opn.enc ops :: WRE r.2 ⟨t, mOf o, 0, false, .pointer none, 0⟩ :: x.H) := by
  intro w hE hH
  refine enter (n := 83) (vs := [ptV bH, .int .i64 t, ptV b]) (St w (dom (HSE bH (ptV x.bh) bt vT vO vE sq pk :: rowE vE 71 Evt.enc ev :: CLE b vo nx [.pointer none, .pointer none] :: rowE vo 43 Opn.enc ops :: x.H)) (HSE bH (ptV x.bh) bt vT vO vE sq pk :: rowE vE 71 Evt.enc ev :: CLE b vo nx [.pointer none, .pointer none] :: rowE vo 43 Opn.enc ops :: x.H)) func39 I I I (St.init hH) ?_
  refine c_block (Cs I (Lm I (Lc I (Lfa U125 I Z122 I (Lo G122 2 I (Lq I (q_nep I U122 I I) (Ak I (Sb 15 false I (I) (c_false I (Cs I (Lm I (Lc I (Lfa U125 I Z123 I (Lo G123 2 I (Lq I (q_nep I U123 I I) (Ak I (Sb 45 false I (I) (c_false I (Cr I (Lm I (Lm I (Lm I (l_e I ?_)))))))))))))))))))))))
  refine e_call_45 (hbegin1 bH bt (ptV x.bh) vT vO vE sq pk ev hev b nx t vo ops hop hol hok hkd) I I I call81 I Tt ?_
  intro r _
  refine l_nil (k_block (r_normal (r_none I ?_)))
  exact fun _ hh => ⟨r, rfl, trivial, hh⟩
theorem ci3 {x : HQ} {L : Lf} {B : Nat} (h : LH x L B) (bH bt : Nat) (vT vO vE : Value) (sq pk : Int) (ev : List Evt) (hev : ev.length ≤ 60000) (b nx : Nat) (hnx : nx ≤ 1000) (vo : Value) (ops : List Opn) (t : Int) {o : Opn} (hop : ops[nx]? = some o) (hol : ops.length ≤ 1000) (hok : o.Ok) (hkd : o.kind = 3) : Con Tryz.prog 39 [ptV bH, .int .i64 t, ptV b] (fun _ => True) (HSE bH (ptV x.bh) bt vT vO vE sq pk :: rowE vE 71 Evt.enc ev :: CLE b vo nx [.pointer none, .pointer none] :: rowE vo 43 Opn.enc ops :: x.H) (fun r : Value × Nat => .tuple #[]) (fun _ => True) (fun r => HSE bH (ptV x.bh) bt vT vO r.1 sq pk :: rowE r.1 71 Evt.enc (ev ++ [(⟨t, (nx : Int), false, ans0⟩ : Evt)]) :: CLE b vo nx [.pointer none, ptV r.2] :: rowE vo 43 Opn.enc ops :: WRE r.2 ⟨t, mOf o, 0, false, .pointer none, 0⟩ :: x.H) := by
  intro w hE hH
  refine enter (n := 83) (vs := [ptV bH, .int .i64 t, ptV b]) (St w (dom (HSE bH (ptV x.bh) bt vT vO vE sq pk :: rowE vE 71 Evt.enc ev :: CLE b vo nx [.pointer none, .pointer none] :: rowE vo 43 Opn.enc ops :: x.H)) (HSE bH (ptV x.bh) bt vT vO vE sq pk :: rowE vE 71 Evt.enc ev :: CLE b vo nx [.pointer none, .pointer none] :: rowE vo 43 Opn.enc ops :: x.H)) func39 I I I (St.init hH) ?_
  refine c_block (Cs I (Lm I (Lc I (Lfa U125 I Z122 I (Lo G122 2 I (Lq I (q_nep I U122 I I) (Ak I (Sb 15 false I (I) (c_false I (Cs I (Lm I (Lc I (Lfa U125 I Z123 I (Lo G123 2 I (Lq I (q_nep I U123 I I) (Ak I (Sb 45 false I (I) (c_false I (Cr I (Lm I (Lm I (Lm I (l_e I ?_)))))))))))))))))))))))
  refine e_call_45 (hbegin3 bH bt (ptV x.bh) vT vO vE sq pk ev hev b nx t vo ops hop hol hok hkd) I I I call81 I Tt ?_
  intro r _
  refine l_nil (k_block (r_normal (r_none I ?_)))
  exact fun _ hh => ⟨r, rfl, trivial, hh⟩
theorem ci4 {x : HQ} {L : Lf} {B : Nat} (h : LH x L B) (bH bt : Nat) (vT vO vE : Value) (sq pk : Int) (ev : List Evt) (hev : ev.length ≤ 60000) (b nx : Nat) (hnx : nx ≤ 1000) (vo : Value) (ops : List Opn) (t : Int) {o : Opn} (hop : ops[nx]? = some o) (hol : ops.length ≤ 1000) (hok : o.Ok) (hkd : o.kind = 4) : Con Tryz.prog 39 [ptV bH, .int .i64 t, ptV b] (fun _ => True) (HSE bH (ptV x.bh) bt vT vO vE sq pk :: rowE vE 71 Evt.enc ev :: CLE b vo nx [.pointer none, .pointer none] :: rowE vo 43 Opn.enc ops :: x.H) (fun r : Value × Nat => .tuple #[]) (fun _ => True) (fun r => HSE bH (ptV x.bh) bt vT vO r.1 sq pk :: rowE r.1 71 Evt.enc (ev ++ [(⟨t, (nx : Int), false, ans0⟩ : Evt)]) :: CLE b vo nx [ptV r.2, .pointer none] :: rowE vo 43 Opn.enc ops :: WKE r.2 ⟨t, kOf o, 1, false, kv0 16, false⟩ :: x.H) := by
  intro w hE hH
  refine enter (n := 83) (vs := [ptV bH, .int .i64 t, ptV b]) (St w (dom (HSE bH (ptV x.bh) bt vT vO vE sq pk :: rowE vE 71 Evt.enc ev :: CLE b vo nx [.pointer none, .pointer none] :: rowE vo 43 Opn.enc ops :: x.H)) (HSE bH (ptV x.bh) bt vT vO vE sq pk :: rowE vE 71 Evt.enc ev :: CLE b vo nx [.pointer none, .pointer none] :: rowE vo 43 Opn.enc ops :: x.H)) func39 I I I (St.init hH) ?_
  refine c_block (Cs I (Lm I (Lc I (Lfa U125 I Z122 I (Lo G122 2 I (Lq I (q_nep I U122 I I) (Ak I (Sb 15 false I (I) (c_false I (Cs I (Lm I (Lc I (Lfa U125 I Z123 I (Lo G123 2 I (Lq I (q_nep I U123 I I) (Ak I (Sb 45 false I (I) (c_false I (Cr I (Lm I (Lm I (Lm I (l_e I ?_)))))))))))))))))))))))
  refine e_call_45 (hbegin4 bH bt (ptV x.bh) vT vO vE sq pk ev hev b nx t vo ops hop hol hok hkd) I I I call81 I Tt ?_
  intro r _
  refine l_nil (k_block (r_normal (r_none I ?_)))
  exact fun _ hh => ⟨r, rfl, trivial, hh⟩
theorem Con.conv {P : Program} {f : FuncId} {vs : List Value} {E : World → Prop} {H H' : List Ent} {β γ : Type} {u : Value} {p : β → Prop} {p' : γ → Prop} {HB : β → List Ent} {HB' : γ → List Ent} (s : Con P f vs E H (fun _ : β => u) p HB) (hH : H' = H) (g : β → γ) (hg : ∀ b, p b → p' (g b) ∧ HB b = HB' (g b)) : Con P f vs E H' (fun _ : γ => u) p' HB' := fun w he hh => by
  subst hH
  exact (s w he hh).mono (fun e w' ⟨b, h1, h2, h3⟩ => ⟨g b, h1, (hg b h2).1, by rw [← (hg b h2).2]; exact h3⟩)
abbrev seqN (b : Bool) (sq : Int) : Int := if b = true then IntKind.u64.wrap (sq + 1) else sq
theorem op_at {c : Cl} (h : c.nx < c.ops.length) : c.ops[c.nx]? = some c.op := by
  unfold Cl.op
  rw [List.getD_eq_getElem?_getD, List.getElem?_eq_getElem h]; rfl
theorem client_step {x : HQ} {L : Lf} {B : Nat} (h : LH x L B) (hB : B + 1 ≤ 60000) {t : Int} (ht : tkB t = true) (bH bt : Nat) (vT vO vE : Value) (sq pk : Int) (ev : List Evt) (hev : ev.length ≤ 60000) (hsq : (Lit.int .u64 sq).wf = true) (c : CC) (hol : c.m.ops.length ≤ 1000) (hnx : c.m.nx ≤ 1000)
    (hmay : c.m.ph ≠ .idle → L.mayH t = true) (hpre : preC t L c.m) : Con Tryz.prog 39 [ptV bH, .int .i64 t, ptV c.b] (fun _ => True) (HSE bH (ptV x.bh) bt vT vO vE sq pk :: rowE vE 71 Evt.enc ev :: (c.H t ++ x.H)) (fun _ : Value × CC × HQ => .tuple #[])
    (fun r => r.2.1.b = c.b ∧ r.2.1.m = (stepC t L c.m).2.1 ∧ r.2.2.bh = x.bh ∧ LH r.2.2 (stepC t L c.m).1 (B + 1))
    (fun r => HSE bH (ptV x.bh) bt vT vO r.1 (seqN (stepC t L c.m).2.2.1 sq) pk :: rowE r.1 71 Evt.enc (ev ++ (stepC t L c.m).2.2.2) :: (r.2.1.H t ++ r.2.2.H)) := by
  obtain ⟨b, vo, bw, br, ⟨ops, nx, ph⟩⟩ := c
  have he0 : ev = ev ++ [] := (List.append_nil ev).symm
  cases ph with
  | idle =>
    obtain ⟨h1, hok, hk⟩ := hpre
    have hop := op_at h1
    have hwB := h.mono (Nat.le_succ B) hB
    generalize ho : Cl.op ⟨ops, nx, .idle⟩ = o at hok hk hop
    have hst : stepC t L ⟨ops, nx, .idle⟩ = (L, ⟨ops, nx, if o.kind = 4 then .rd 1 else .wr 0⟩, false, [evB t ⟨ops, nx, .idle⟩]) := by rw [← ho]; rfl
    have hoq : ∀ p, Cl.op ⟨ops, nx, p⟩ = o := fun p => ho
    rw [hst]
    rcases hk with hk | hk | hk
    · rw [if_neg (by rw [hk]; decide)]
      exact Con.conv (ci1 h bH bt vT vO vE sq pk ev hev b nx hnx vo ops t hop hol hok hk) I (fun r : Value × Nat => (r.1, (⟨b, vo, r.2, br, ⟨ops, nx, .wr 0⟩⟩ : CC), x)) (fun r _ => ⟨⟨rfl, rfl, rfl, hwB⟩, by dsimp only [CC.H, CC.more, CC.ptrs]; rw [hoq]; rfl⟩)
    · rw [if_neg (by rw [hk]; decide)]
      exact Con.conv (ci3 h bH bt vT vO vE sq pk ev hev b nx hnx vo ops t hop hol hok hk) I (fun r : Value × Nat => (r.1, (⟨b, vo, r.2, br, ⟨ops, nx, .wr 0⟩⟩ : CC), x)) (fun r _ => ⟨⟨rfl, rfl, rfl, hwB⟩, by dsimp only [CC.H, CC.more, CC.ptrs]; rw [hoq]; rfl⟩)
    · rw [if_pos hk]
      exact Con.conv (ci4 h bH bt vT vO vE sq pk ev hev b nx hnx vo ops t hop hol hok hk) I (fun r : Value × Nat => (r.1, (⟨b, vo, r.2, br, ⟨ops, nx, .rd 1⟩⟩ : CC), x)) (fun r _ => ⟨⟨rfl, rfl, rfl, hwB⟩, by dsimp only [CC.H, CC.more, CC.ptrs]; rw [hoq]; rfl⟩)
  | rd a =>
    have hm := hmay (by simp)
    match a, hpre with
    | 1, _ =>
      have hst : stepC t L ⟨ops, nx, .rd 1⟩ = ((L.pin t).2, ⟨ops, nx, .rd (if (L.pin t).1 = 3 then 2 else 3)⟩, false, []) := rfl
      rw [hst]
      exact Con.conv (cr1 h ht hm bH bt vT vO vE sq pk ev hev b nx bw br hnx vo ops _ hB) I (fun y : HQ => (vE, (⟨b, vo, bw, br, ⟨ops, nx, .rd (if (L.pin t).1 = 3 then 2 else 3)⟩⟩ : CC), y)) (fun y hp => ⟨⟨rfl, rfl, hp.1, hp.2⟩, by
        rw [List.append_nil]
        by_cases h3 : (L.pin t).1 = 3 <;> simp only [h3, if_true, if_false] <;> rfl⟩)
    | 2, hp =>
      have hst : stepC t L ⟨ops, nx, .rd 2⟩ = (L.fill, ⟨ops, nx, .rd 3⟩, false, []) := rfl
      rw [hst]
      exact Con.conv (cr2 h ht hm bH bt vT vO vE sq pk ev hev b nx bw br hnx vo ops _ hp.1 hp.2) I (fun y : HQ => (vE, (⟨b, vo, bw, br, ⟨ops, nx, .rd 3⟩⟩ : CC), y)) (fun y hp => ⟨⟨rfl, rfl, hp.1, hp.2.mono (Nat.le_succ B) hB⟩, by
        rw [List.append_nil]; rfl⟩)
    | 3, hp =>
      have hst : stepC t L ⟨ops, nx, .rd 3⟩ = (L.take t false, ⟨ops, nx, .rd 5⟩, false, []) := rfl
      rw [hst]
      exact Con.conv (cr3 h ht hm bH bt vT vO vE sq pk ev hev b nx bw br hnx vo ops _ hp hB) I (fun y : HQ => (vE, (⟨b, vo, bw, br, ⟨ops, nx, .rd 5⟩⟩ : CC), y)) (fun y hp => ⟨⟨rfl, rfl, hp.1, hp.2⟩, by
        rw [List.append_nil]; rfl⟩)
    | 5, hp => exact Con.conv (cr5 h ht hm bH bt vT vO vE sq pk ev hev b nx bw br hnx vo ops _ hp.1 hp.2) rfl (fun r : Value × HQ => (r.1, (⟨b, vo, bw, br, ⟨ops, nx + 1, .idle⟩⟩ : CC), r.2)) (fun r hp => ⟨⟨rfl, rfl, hp.1, hp.2.mono (Nat.le_succ B) hB⟩, rfl⟩)
  | wr a =>
    have hm := hmay (by simp)
    match a, hpre with
    | 0, _ =>
      have hst : stepC t L ⟨ops, nx, .wr 0⟩ = ((L.pin t).2, ⟨ops, nx, .wr (if (L.pin t).1 = 3 then 1 else 2)⟩, false, []) := rfl
      rw [hst]
      exact Con.conv (cw0 h ht hm bH bt vT vO vE sq pk ev hev b nx bw br hnx vo ops _ hB) I (fun y : HQ => (vE, (⟨b, vo, bw, br, ⟨ops, nx, .wr (if (L.pin t).1 = 3 then 1 else 2)⟩⟩ : CC), y)) (fun y hp => ⟨⟨rfl, rfl, hp.1, hp.2⟩, by
        rw [List.append_nil]
        by_cases h3 : (L.pin t).1 = 3 <;> simp only [h3, if_true, if_false] <;> rfl⟩)
    | 1, hp =>
      have hst : stepC t L ⟨ops, nx, .wr 1⟩ = (L.fill, ⟨ops, nx, .wr 2⟩, false, []) := rfl
      rw [hst]
      exact Con.conv (cw1 h ht hm bH bt vT vO vE sq pk ev hev b nx bw br hnx vo ops _ hp.1 hp.2) I (fun y : HQ => (vE, (⟨b, vo, bw, br, ⟨ops, nx, .wr 2⟩⟩ : CC), y)) (fun y hp => ⟨⟨rfl, rfl, hp.1, hp.2.mono (Nat.le_succ B) hB⟩, by
        rw [List.append_nil]; rfl⟩)
    | 2, hp =>
      have hst : stepC t L ⟨ops, nx, .wr 2⟩ = (L.take t true, ⟨ops, nx, .wr 3⟩, false, []) := rfl
      rw [hst]
      exact Con.conv (cw2 h ht hm bH bt vT vO vE sq pk ev hev b nx bw br hnx vo ops _ hp hB) I (fun y : HQ => (vE, (⟨b, vo, bw, br, ⟨ops, nx, .wr 3⟩⟩ : CC), y)) (fun y hp => ⟨⟨rfl, rfl, hp.1, hp.2⟩, by
        rw [List.append_nil]; rfl⟩)
    | 3, ⟨h2, hw, hmk⟩ =>
      have hhs : hasB L.la t = true := by unfold hasB; rw [decide_eq_true hw]; rfl
      by_cases hf : fitL (lfd (lput (lfe L) (mOf (Cl.op ⟨ops, nx, .wr 3⟩)))) = true
      · have hst : stepC t L ⟨ops, nx, .wr 3⟩ = ((L.setN (lput (lfe L) (mOf (Cl.op ⟨ops, nx, .wr 3⟩)))).leave t, ⟨ops, nx + 1, .idle⟩, true, [evD t ⟨ops, nx, .wr 3⟩ ans0]) := by
          show (if fitL (lfd (lput (lfe L) (mOf (Cl.op ⟨ops, nx, .wr 3⟩)))) = true then _ else _) = _
          rw [if_pos hf]; rfl
        rw [hst]
        exact Con.conv (cw3y h ht hm bH bt vT vO vE sq pk ev hev b nx bw br hnx vo ops _ hsq hmk h2 hw hhs hf) I (fun r : Value × HQ => (r.1, (⟨b, vo, bw, br, ⟨ops, nx + 1, .idle⟩⟩ : CC), r.2)) (fun r hp => ⟨⟨rfl, rfl, hp.1, hp.2.mono (Nat.le_succ B) hB⟩, rfl⟩)
      · have hst : stepC t L ⟨ops, nx, .wr 3⟩ = (L, ⟨ops, nx, .rm 1⟩, false, []) := by
          show (if fitL (lfd (lput (lfe L) (mOf (Cl.op ⟨ops, nx, .wr 3⟩)))) = true then _ else _) = _
          rw [if_neg hf]
        rw [hst]
        exact Con.conv (cw3n h ht hm bH bt vT vO vE sq pk ev hev b nx bw br hnx vo ops _ hsq hmk h2 hw (Bool.eq_false_iff.2 hf)) I (fun brn : Nat => (vE, (⟨b, vo, bw, brn, ⟨ops, nx, .rm 1⟩⟩ : CC), x)) (fun r hp => ⟨⟨rfl, rfl, rfl, h.mono (Nat.le_succ B) hB⟩, by rw [List.append_nil]; rfl⟩)
  | rm a =>
    have hm := hmay (by simp)
    match a, hpre with
    | 1, hp =>
      have hst : stepC t L ⟨ops, nx, .rm 1⟩ = (L, ⟨ops, nx, .rm 6⟩, false, []) := rfl
      rw [hst]
      exact Con.conv (cb1 h ht hm bH bt vT vO vE sq pk ev hev b nx bw br hnx vo ops _ hp.1 hp.2) I (fun _ : Unit => (vE, (⟨b, vo, bw, br, ⟨ops, nx, .rm 6⟩⟩ : CC), x)) (fun y _ => ⟨⟨rfl, rfl, rfl, h.mono (Nat.le_succ B) hB⟩, by
        rw [List.append_nil]; rfl⟩)
    | 6, hp =>
      have hst : stepC t L ⟨ops, nx, .rm 6⟩ = (L.claim t, ⟨ops, nx, .rm 7⟩, false, []) := rfl
      rw [hst]
      exact Con.conv (cb6 h ht hm bH bt vT vO vE sq pk ev hev b nx bw br hnx vo ops _ hp.1 hB hp.2.1 hp.2.2) I (fun y : HQ => (vE, (⟨b, vo, bw, br, ⟨ops, nx, .rm 7⟩⟩ : CC), y)) (fun y hp => ⟨⟨rfl, rfl, hp.1, hp.2⟩, by
        rw [List.append_nil]; rfl⟩)
    | 7, hp =>
      have hst : stepC t L ⟨ops, nx, .rm 7⟩ = (L.claim t, ⟨ops, nx, .rm 10⟩, false, []) := rfl
      rw [hst]
      exact Con.conv (cb7 h ht hm bH bt vT vO vE sq pk ev hev b nx bw br hnx vo ops _ hp.1 hB hp.2.1 hp.2.2) I (fun y : HQ => (vE, (⟨b, vo, bw, br, ⟨ops, nx, .rm 10⟩⟩ : CC), y)) (fun y hp => ⟨⟨rfl, rfl, hp.1, hp.2⟩, by
        rw [List.append_nil]; rfl⟩)
    | 10, hp => exact Con.conv (cb10 h ht hm bH bt vT vO vE sq pk ev hev b nx bw br hnx vo ops _ hp.1 hp.2.1 hp.2.2.1 hp.2.2.2.1 hp.2.2.2.2) rfl (fun r : Value × HQ => (r.1, (⟨b, vo, bw, br, ⟨ops, nx + 1, .idle⟩⟩ : CC), r.2)) (fun r hp => ⟨⟨rfl, rfl, hp.1, hp.2.mono (Nat.le_succ B) hB⟩, rfl⟩)
end Go.Proofs.YtloldofjddbjoaaGreat
namespace Go.Proofs.YtloldofjddbjoaaGreat.Sc
open Go.Sep Go.RowKit Tryz
structure Tab where
  n : Nat
  st : List Int
  wt : List Int
  pk : List Int
  worst : Int
structure Tab.Ok (m : Tab) (c : Int) : Prop where
  n1 : 1 ≤ m.n
  n8 : m.n ≤ 8
  st : m.st.length = m.n
  wt : m.wt.length = m.n
  pk : m.pk.length = m.n
  wt0 : ∀ k, k < m.n → 0 ≤ m.wt.getD k 0 ∧ m.wt.getD k 0 ≤ c
  pk0 : ∀ k, k < m.n → 0 ≤ m.pk.getD k 0 ∧ m.pk.getD k 0 ≤ c
  w0 : 0 ≤ m.worst ∧ m.worst ≤ c
theorem Tab.Ok.mono {m : Tab} {c d : Int} (h : m.Ok c) (hd : c ≤ d) : m.Ok d := ⟨h.n1, h.n8, h.st, h.wt, h.pk, fun k hk => ⟨(h.wt0 k hk).1, Int.le_trans (h.wt0 k hk).2 hd⟩, fun k hk => ⟨(h.pk0 k hk).1, Int.le_trans (h.pk0 k hk).2 hd⟩, h.w0.1, Int.le_trans h.w0.2 hd⟩
def ints (l : List Int) : List Value := l.map (Value.int .i64)
def pad8 (l : List Int) : List Int := l ++ List.replicate (8 - l.length) 0
theorem pad8_len {l : List Int} (h : l.length ≤ 8) : (pad8 l).length = 8 := by simp [pad8]; omega
theorem pad8_get {l : List Int} {k : Nat} (h : k < l.length) : (pad8 l)[k]? = some (l.getD k 0) := by
  simp [pad8, List.getElem?_append_left h, List.getD_eq_getElem?_getD, h]
theorem pad8_set {l : List Int} {k : Nat} (h : k < l.length) (x : Int) : (pad8 l).set k x = pad8 (l.set k x) := by
  simp [pad8, List.set_append_left _ _ h]
def tabC (m : Tab) : List Value := [.int .i64 m.n] ++ (ints (pad8 m.st) ++ (ints (pad8 m.wt) ++ (ints (pad8 m.pk) ++ [.int .i64 m.worst])))
theorem ints_len (l : List Int) : (ints l).length = l.length := by simp [ints]
theorem ints_get (l : List Int) (k : Nat) : (ints l)[k]? = (l[k]?).map (Value.int .i64) := by simp [ints]
theorem ints_set (l : List Int) (k : Nat) (x : Int) : (ints l).set k (.int .i64 x) = ints (l.set k x) := by simp [ints, List.map_set]
section
variable {m : Tab} {c : Int} (h : m.Ok c)
include h
theorem Tab.Ok.l1 : (ints (pad8 m.st)).length = 8 := by rw [ints_len, pad8_len (by rw [h.st]; exact h.n8)]
theorem Tab.Ok.l2 : (ints (pad8 m.wt)).length = 8 := by rw [ints_len, pad8_len (by rw [h.wt]; exact h.n8)]
theorem Tab.Ok.l3 : (ints (pad8 m.pk)).length = 8 := by rw [ints_len, pad8_len (by rw [h.pk]; exact h.n8)]
theorem tab_len : (tabC m).length = 26 := by simp [tabC, h.l1, h.l2, h.l3]
theorem tab_st {off k : Nat} (hk : k < m.n) (ho : off = 1 + k) : (tabC m)[off]? = some (.int .i64 (m.st.getD k 0)) := by
  have h8 := h.n8
  have l1 := h.l1
  subst ho
  rw [tabC, List.getElem?_append_right (by simp), List.getElem?_append_left (by simp; omega)]
  simp only [List.length_singleton, Nat.add_sub_cancel_left]
  rw [ints_get, pad8_get (by rw [h.st]; exact hk)]; rfl
theorem tab_wt {off k : Nat} (hk : k < m.n) (ho : off = 9 + k) : (tabC m)[off]? = some (.int .i64 (m.wt.getD k 0)) := by
  have h8 := h.n8
  have l1 := h.l1
  have l2 := h.l2
  subst ho
  rw [tabC, List.getElem?_append_right (by simp; omega), List.getElem?_append_right (by simp; omega), List.getElem?_append_left (by simp; omega)]
  rw [l1, List.length_singleton, show 9 + k - 1 - 8 = k from by omega, ints_get, pad8_get (by rw [h.wt]; exact hk)]; rfl
theorem tab_pk {off k : Nat} (hk : k < m.n) (ho : off = 17 + k) : (tabC m)[off]? = some (.int .i64 (m.pk.getD k 0)) := by
  have h8 := h.n8
  have l1 := h.l1
  have l2 := h.l2
  have l3 := h.l3
  subst ho
  rw [tabC, List.getElem?_append_right (by simp; omega), List.getElem?_append_right (by simp; omega), List.getElem?_append_right (by simp; omega), List.getElem?_append_left (by simp; omega)]
  rw [l1, l2, List.length_singleton, show 17 + k - 1 - 8 - 8 = k from by omega, ints_get, pad8_get (by rw [h.pk]; exact hk)]; rfl
theorem tab_worst {off : Nat} (ho : off = 25) : (tabC m)[off]? = some (.int .i64 m.worst) := by
  have l1 := h.l1
  have l2 := h.l2
  have l3 := h.l3
  subst ho
  rw [tabC, List.getElem?_append_right (by simp), List.getElem?_append_right (by simp; omega), List.getElem?_append_right (by simp; omega), List.getElem?_append_right (by simp; omega)]
  rw [l1, l2, l3]; rfl
theorem set_st {off k : Nat} (x : Int) (hk : k < m.n) (ho : off = 1 + k) : (tabC m).set off (.int .i64 x) = tabC { m with st := m.st.set k x } := by
  have h8 := h.n8
  have l1 := h.l1
  subst ho
  unfold tabC
  rw [List.set_append_right _ _ (by simp), List.set_append_left _ _ (by simp; omega)]
  simp only [List.length_singleton, Nat.add_sub_cancel_left, ints_set]
  rw [pad8_set (by rw [h.st]; exact hk)]
theorem set_wt {off k : Nat} (x : Int) (hk : k < m.n) (ho : off = 9 + k) : (tabC m).set off (.int .i64 x) = tabC { m with wt := m.wt.set k x } := by
  have h8 := h.n8
  have l1 := h.l1
  have l2 := h.l2
  subst ho
  unfold tabC
  rw [List.set_append_right _ _ (by simp; omega), List.set_append_right _ _ (by simp; omega), List.set_append_left _ _ (by simp; omega)]
  rw [l1, List.length_singleton, show 9 + k - 1 - 8 = k from by omega, ints_set, pad8_set (by rw [h.wt]; exact hk)]
theorem set_pk {off k : Nat} (x : Int) (hk : k < m.n) (ho : off = 17 + k) : (tabC m).set off (.int .i64 x) = tabC { m with pk := m.pk.set k x } := by
  have h8 := h.n8
  have l1 := h.l1
  have l2 := h.l2
  have l3 := h.l3
  subst ho
  unfold tabC
  rw [List.set_append_right _ _ (by simp; omega), List.set_append_right _ _ (by simp; omega), List.set_append_right _ _ (by simp; omega), List.set_append_left _ _ (by simp; omega)]
  rw [l1, l2, List.length_singleton, show 17 + k - 1 - 8 - 8 = k from by omega, ints_set, pad8_set (by rw [h.pk]; exact hk)]
theorem set_worst {off : Nat} (x : Int) (ho : off = 25) : (tabC m).set off (.int .i64 x) = tabC { m with worst := x } := by
  have l1 := h.l1
  have l2 := h.l2
  have l3 := h.l3
  subst ho
  unfold tabC
  rw [List.set_append_right _ _ (by simp), List.set_append_right _ _ (by simp; omega), List.set_append_right _ _ (by simp; omega), List.set_append_right _ _ (by simp; omega)]
  rw [l1, l2, l3]; rfl
end
def turnM (m : Tab) (i s : Int) : Tab := if 0 ≤ i ∧ i < m.n ∧ m.st.getD i.toNat 0 ≠ 2 then { m with st := m.st.set i.toNat s, wt := if s = 0 then m.wt else m.wt.set i.toNat 0 } else m
theorem getD_set {l : List Int} {k j : Nat} {x : Int} : (l.set k x).getD j 0 = if k = j ∧ k < l.length then x else l.getD j 0 := by
  simp only [List.getD_eq_getElem?_getD, List.getElem?_set]
  by_cases hk : k = j
  · subst hk; by_cases hl : k < l.length <;> simp [hl]
  · simp [hk]
theorem turn_ok {m : Tab} {c : Int} (h : m.Ok c) (i s : Int) : (turnM m i s).Ok c := by
  unfold turnM
  split
  · rename_i hi
    refine ⟨h.n1, h.n8, by simp [h.st], by split <;> simp [h.wt], h.pk, fun k hk => ?_, h.pk0, h.w0⟩
    have := h.wt0 k hk
    simp only
    split
    · exact this
    · rw [getD_set]; split
      · have := h.w0; omega
      · exact this
  · exact h
theorem turn_n (m : Tab) (i s : Int) : (turnM m i s).n = m.n := by unfold turnM; split <;> rfl
def runM (m : Tab) : List Nat := (List.range m.n).filter (fun k => decide (m.st.getD k 0 = 0))
def endM (m : Tab) : Bool := (List.range m.n).all (fun k => decide (m.st.getD k 0 = 2))
def nints (l : List Nat) : List Int := l.map (fun k : Nat => (k : Int))
def runTo (m : Tab) (k : Nat) : List Int := nints ((List.range k).filter (fun j => decide (m.st.getD j 0 = 0)))
theorem runTo_n (m : Tab) : runTo m m.n = nints (runM m) := rfl
theorem runTo_yes {m : Tab} {k : Nat} (h : m.st.getD k 0 = 0) : runTo m k ++ [(k : Int)] = runTo m (k + 1) := by
  simp only [runTo, List.range_succ, List.filter_append, nints, List.map_append, List.filter_cons, List.filter_nil, h, decide_true, if_true, List.map_cons, List.map_nil]
theorem runTo_no {m : Tab} {k : Nat} (h : ¬ m.st.getD k 0 = 0) : runTo m k = runTo m (k + 1) := by
  simp only [runTo, List.range_succ, List.filter_append, nints, List.map_append, List.filter_cons, List.filter_nil, h, decide_false, Bool.false_eq_true, if_false, List.map_nil, List.append_nil]
theorem runTo_len (m : Tab) (k : Nat) : (runTo m k).length ≤ k := by
  simp only [runTo, nints, List.length_map]
  exact Nat.le_trans (List.length_filter_le _ _) (by simp)
theorem runM_lt {m : Tab} {k : Nat} (h : k ∈ runM m) : k < m.n := by simp [runM] at h; exact h.1
theorem runM_len (m : Tab) : (runM m).length ≤ m.n := Nat.le_trans (List.length_filter_le _ _) (by simp)
theorem nints_get {l : List Nat} {k x : Nat} (h : l[k]? = some x) : (nints l)[k]? = some (x : Int) := by simp [nints, h]
theorem nints_len (l : List Nat) : (nints l).length = l.length := by simp [nints]
def stepM (told : Nat) (m : Tab) (x : Nat) : Tab := if x = told then m else { m with wt := m.wt.set x (m.wt.getD x 0 + 1), worst := if m.wt.getD x 0 + 1 > m.worst then m.wt.getD x 0 + 1 else m.worst }
theorem step_ok {m : Tab} {c : Int} (h : m.Ok c) {x : Nat} (hx : x < m.n) (told : Nat) : (stepM told m x).Ok (c + 1) := by
  unfold stepM
  split
  · exact h.mono (by omega)
  · have hw := h.wt0 x hx
    have h0 := h.w0
    refine ⟨h.n1, h.n8, h.st, by simp [h.wt], h.pk, fun k hk => ?_, fun k hk => ?_, ?_⟩
    · have := h.wt0 k hk
      simp only [getD_set]
      split <;> omega
    · have := h.pk0 k hk; simp only; omega
    · simp only; split <;> omega
theorem step_n (told : Nat) (m : Tab) (x : Nat) : (stepM told m x).n = m.n := by unfold stepM; split <;> rfl
theorem step_st (told : Nat) (m : Tab) (x : Nat) : (stepM told m x).st = m.st := by unfold stepM; split <;> rfl
theorem step_pk (told : Nat) (m : Tab) (x : Nat) : (stepM told m x).pk = m.pk := by unfold stepM; split <;> rfl
def stepsM (told : Nat) (m : Tab) (l : List Nat) : Tab := l.foldl (stepM told) m
theorem steps_n (told : Nat) : ∀ (l : List Nat) (m : Tab), (stepsM told m l).n = m.n
  | [], m => rfl
  | x :: l, m => (steps_n told l (stepM told m x)).trans (step_n told m x)
theorem steps_st (told : Nat) : ∀ (l : List Nat) (m : Tab), (stepsM told m l).st = m.st
  | [], m => rfl
  | x :: l, m => (steps_st told l (stepM told m x)).trans (step_st told m x)
theorem steps_pk (told : Nat) : ∀ (l : List Nat) (m : Tab), (stepsM told m l).pk = m.pk
  | [], m => rfl
  | x :: l, m => (steps_pk told l (stepM told m x)).trans (step_pk told m x)
theorem steps_ok (told : Nat) : ∀ (l : List Nat) {m : Tab} {c : Int}, m.Ok c → (∀ x ∈ l, x < m.n) → (stepsM told m l).Ok (c + l.length)
  | [], m, c, h, hl => by simpa [stepsM] using h
  | x :: l, m, c, h, hl => by
    have h1 := step_ok h (hl x (List.mem_cons_self ..)) told
    have := steps_ok told l h1 (fun y hy => by rw [step_n]; exact hl y (List.mem_cons_of_mem _ hy))
    exact this.mono (by simp; omega)
theorem steps_snoc (told : Nat) (m : Tab) (l : List Nat) (x : Nat) : stepsM told m (l ++ [x]) = stepM told (stepsM told m l) x := by simp [stepsM]
theorem take_snoc' {l : List Nat} {i x : Nat} (h : l[i]? = some x) : l.take (i + 1) = l.take i ++ [x] := by
  have := (List.getElem?_eq_some_iff.1 h)
  rw [List.take_succ_eq_append_getElem this.1, this.2]
def toldM (m : Tab) (told : Nat) : Tab := { m with wt := m.wt.set told 0, pk := m.pk.set told (m.pk.getD told 0 + 1) }
theorem told_ok {m : Tab} {c : Int} (h : m.Ok c) {told : Nat} (ht : told < m.n) : (toldM m told).Ok (c + 1) := by
  have h0 := h.w0
  have hp := h.pk0 told ht
  refine ⟨h.n1, h.n8, h.st, by simp [toldM, h.wt], by simp [toldM, h.pk], fun k hk => ?_, fun k hk => ?_, by simp only [toldM]; omega⟩
  · have := h.wt0 k hk
    simp only [toldM, getD_set]; split <;> omega
  · have := h.pk0 k hk
    simp only [toldM, getD_set]; split <;> omega
def whoM (m : Tab) (p : Int) : Nat := (runM m).getD (p % ((runM m).length : Int)).toNat 0
def pickM (m : Tab) (p : Int) : Tab := if runM m = [] then m else toldM (stepsM (whoM m p) m (runM m)) (whoM m p)
theorem who_lt {m : Tab} (p : Int) (h : runM m ≠ []) : (p % ((runM m).length : Int)).toNat < (runM m).length := by
  have hl : 0 < (runM m).length := List.length_pos_iff.2 h
  have h1 := Int.emod_nonneg p (show ((runM m).length : Int) ≠ 0 by omega)
  have h2 := Int.emod_lt_of_pos p (show 0 < ((runM m).length : Int) by omega)
  omega
theorem who_get {m : Tab} (p : Int) (h : runM m ≠ []) : (runM m)[(p % ((runM m).length : Int)).toNat]? = some (whoM m p) := by
  have := who_lt p h
  simp [whoM, List.getD_eq_getElem?_getD, this]
theorem who_mem {m : Tab} (p : Int) (h : runM m ≠ []) : whoM m p ∈ runM m := List.mem_of_getElem? (who_get p h)
theorem pick_ok {m : Tab} {c : Int} (h : m.Ok c) (p : Int) : (pickM m p).Ok (c + 9) := by
  unfold pickM
  split
  · exact h.mono (by omega)
  · rename_i hr
    have h1 := steps_ok (whoM m p) (runM m) h (fun x hx => runM_lt hx)
    have h2 := told_ok h1 (told := whoM m p) (by rw [steps_n]; exact runM_lt (who_mem p hr))
    have h3 := runM_len m
    have h8 := h.n8
    exact h2.mono (by omega)
theorem pick_n (m : Tab) (p : Int) : (pickM m p).n = m.n := by
  unfold pickM; split
  · rfl
  · exact steps_n _ _ _
theorem tmod_rest {p : Int} {n : Int} (hn : 0 < n) : (p.tmod n + n) % n = p % n := by
  rw [Int.add_emod_right]
  by_cases h : 0 ≤ p
  · rw [Int.tmod_eq_emod_of_nonneg h, Int.emod_emod_of_dvd _ (Int.dvd_refl _)]
  · have h3 := Int.mul_tdiv_add_tmod p n
    rw [show p.tmod n = p + n * (-(p.tdiv n)) from by rw [Int.mul_neg]; omega, Int.add_mul_emod_self_left]
def refR (m : Tab) (t k : Nat) (i : Nat) : Tab := if k < i then toldM (stepsM t m ((runM m).take i)) t else stepsM t m ((runM m).take i)
section
variable {m : Tab} {t k i x : Nat} (ht : (runM m)[k]? = some t) (hx : (runM m)[i]? = some x)
include ht hx
end
def newM (n : Nat) : Tab := ⟨n, List.replicate n 0, List.replicate n 0, List.replicate n 0, 0⟩
theorem new_ok {n : Nat} (h1 : 1 ≤ n) (h8 : n ≤ 8) : (newM n).Ok 0 := by
  have hg : ∀ k, (List.replicate n (0 : Int)).getD k 0 = 0 := fun k => by
    simp only [List.getD_eq_getElem?_getD, List.getElem?_replicate]; split <;> rfl
  exact ⟨h1, h8, by simp [newM], by simp [newM], by simp [newM], fun k _ => by simp only [newM]; rw [hg]; omega, fun k _ => by simp only [newM]; rw [hg]; omega, by simp [newM]⟩
theorem pad8_rep {n : Nat} (h : n ≤ 8) : pad8 (List.replicate n 0) = List.replicate 8 0 := by
  unfold pad8
  rw [List.length_replicate, List.replicate_append_replicate, show n + (8 - n) = 8 from by omega]
theorem tab_new {n : Nat} (h : n ≤ 8) : tabC (newM n) = .int .i64 (n : Int) :: List.replicate 25 (.int .i64 0) := by
  unfold tabC newM
  simp only [pad8_rep h]
  rfl
end Go.Proofs.YtloldofjddbjoaaGreat.Sc
namespace Go.Proofs.YtloldofjddbjoaaGreat.Sc
open Go.Sep Go.RowKit Tryz
theorem is_spec {m : Tab} {c : Int} (hm : m.Ok c) (b : Nat) (i : Int) : Con Tryz.prog 151 [.pointer (some ⟨b, 0, none⟩), .int .i64 i] (fun _ => True) [cellsE b 171 (tabC m)] (fun _ : Unit => .bool (decide (0 ≤ i ∧ i < m.n))) (fun _ => True) (fun _ => [cellsE b 171 (tabC m)]) := by
  intro w hE hH
  refine enter (n := 15) (vs := [.pointer (some ⟨b, 0, none⟩), .int .i64 i]) (St w [b] [cellsE b 171 (tabC m)]) func151 I I I (St.init hH) ?_
  refine Cs I (Ak I (Cs I (Lm I (Lq I (q_geq I I I) (Lm I ?_)))))
  refine Pre.caseB 7 I (fun h => ?_) (fun h => ?_)
  · simp only [B4] at h
    refine Lm I (Lm I (Lc I (Lfa U171 I Z3 I (Lo G3 0 I (Lq I (q_lss I I I) (Lq I (q_pick_t I I I) (Ak I (c_ret (r_one I I ?_)))))))))
    exact fun _ h' => ⟨(), congrArg (fun z => Ending.returned (Value.bool z)) (by simp [h]), trivial, h'⟩
  · simp only [B4] at h
    refine Lx I (Lx I (Lx I (Lx I (Lx I (Lx I (Lq I (q_pick_f I I I) (Ak I (c_ret (r_one I I ?_)))))))))
    exact fun _ h' => ⟨(), congrArg (fun z => Ending.returned (Value.bool z)) (by simp; omega), trivial, h'⟩
theorem turn_spec {m : Tab} {c : Int} (hm : m.Ok c) (b : Nat) (i s : Int) : Con Tryz.prog 150 [.pointer (some ⟨b, 0, none⟩), .int .i64 i, .int .i64 s] (fun _ => True) [cellsE b 171 (tabC m)] (fun _ : Unit => .tuple #[]) (fun _ => True) (fun _ => [cellsE b 171 (tabC (turnM m i s))]) := by
  intro w hE hH
  by_cases hi : 0 ≤ i ∧ i < m.n
  · obtain ⟨k, rfl⟩ := Int.eq_ofNat_of_zero_le hi.1
    have hk : k < m.n := by omega
    have h8 := hm.n8
    refine enter (n := 32) (vs := [.pointer (some ⟨b, 0, none⟩), .int .i64 k, .int .i64 s]) (St w [b] [cellsE b 171 (tabC m)]) func150 I I I (St.init hH) ?_
    refine c_seq (Cs I (Lm I (Lm I (l_e I (e_call_11 (is_spec hm b k) I I I call151 I Tt ?_)))))
    intro _ _
    refine Lq I (q_not I I) (Lm I (Sb 10 false I (by simp; omega) (Lm I (Lm I (Lc I (Lfa U171 I sizeOf168 I (Lq I (q_indexArr k I underlying168 sizeOf167 I I I (by omega)) (Lq I (q_loadC I isAgg167 I (Hat 0 I) (tab_st hm (k := k) (by omega) (by simp))) (Lq I (q_eql I I I) (Lq I (q_pick_f I I I) (Nk ?_)))))))))))
    refine Pre.caseB 18 I (fun h => ?_) (fun h => ?_)
    · simp only [B4] at h
      have hT : turnM m k s = m := by unfold turnM; rw [if_neg (fun hh => hh.2.2 h)]
      refine c_true I (c_ret (k_then_ret (r_none I ?_)))
      exact fun _ h => ⟨(), rfl, trivial, by rw [hT]; exact h⟩
    · simp only [B4] at h
      refine c_false I (c_skip (Kt (Cs I (Lm I (Lm I (Lm I (Lc I (Lfa U171 I sizeOf168 I (Lq I (q_indexArr k I underlying168 sizeOf167 I I I (by omega)) (l_e I (e_store I I sizeOf167 I I I (by rw [tab_len hm]; show 0 + 1 + k * 1 < 26; omega) (cells_eq (set_st hm s (k := k) (by omega) (by simp)) (Nk (Cs I (Lm I (Lq I (q_neq I I I) (Nk ?_)))))))))))))))))
      refine Pre.caseB 26 I (fun h2 => ?_) (fun h2 => ?_)
      · simp only [B4] at h2
        have hm1 : Tab.Ok { m with st := m.st.set k s } c := ⟨hm.n1, hm.n8, by simp [hm.st], hm.wt, hm.pk, hm.wt0, hm.pk0, hm.w0⟩
        have hT : turnM m k s = { m with st := m.st.set k s, wt := m.wt.set k 0 } := by unfold turnM; rw [if_pos ⟨hi.1, hi.2, by simpa using h⟩, if_neg h2]; rfl
        refine c_true I (Cr I (Lm I (Lm I (Lc I (Lfa U171 I Z169 I (Lq I (q_indexArr k I U169 Z3 I I I (by omega)) (l_e I (e_store I I Z3 I I I (by rw [tab_len hm1]; show 0 + 9 + k * 1 < 26; omega) (cells_eq (set_wt hm1 0 (k := k) hk (by simp)) (l_nil (r_normal (r_none I ?_))))))))))))
        exact fun _ h => ⟨(), rfl, trivial, by rw [hT]; exact h⟩
      · simp only [B4] at h2
        have hT : turnM m k s = { m with st := m.st.set k s } := by unfold turnM; rw [if_pos ⟨hi.1, hi.2, by simpa using h⟩, if_pos h2]; rfl
        refine c_false I (c_skip (r_normal (r_none I ?_)))
        exact fun _ h => ⟨(), rfl, trivial, by rw [hT]; exact h⟩
  · have hT : turnM m i s = m := by unfold turnM; rw [if_neg (fun hh => hi ⟨hh.1, hh.2.1⟩)]
    refine enter (n := 32) (vs := [.pointer (some ⟨b, 0, none⟩), .int .i64 i, .int .i64 s]) (St w [b] [cellsE b 171 (tabC m)]) func150 I I I (St.init hH) ?_
    refine c_seq (Cs I (Lm I (Lm I (l_e I (e_call_11 (is_spec hm b i) I I I call151 I Tt ?_)))))
    intro _ _
    refine Lq I (q_not I I) (Lm I (Sb 10 true I (by simp only [Bool.not_eq_true', decide_eq_false_iff_not]; exact hi) (Lx I (Lx I (Lx I (Lx I (Lx I (Lx I (Lx I (Lq I (q_pick_t I I I) (Nk (c_true I (c_ret (k_then_ret (r_none I ?_)))))))))))))))
    exact fun _ h => ⟨(), rfl, trivial, by rw [hT]; exact h⟩
theorem block_spec {m : Tab} {c : Int} (hm : m.Ok c) (b : Nat) (i : Int) : Con Tryz.prog 94 [.pointer (some ⟨b, 0, none⟩), .int .i64 i] (fun _ => True) [cellsE b 171 (tabC m)] (fun _ : Unit => .tuple #[]) (fun _ => True) (fun _ => [cellsE b 171 (tabC (turnM m i 1))]) := by
  intro w hE hH
  refine enter (n := 7) (vs := [.pointer (some ⟨b, 0, none⟩), .int .i64 i]) (St w [b] [cellsE b 171 (tabC m)]) func94 I I I (St.init hH) ?_
  refine Cr I (Lm I (Lm I (l_e I (e_call_11 (turn_spec hm b i 1) I I I call150 I Tt ?_))))
  intro _ _
  refine l_nil (r_normal (r_none I ?_))
  exact fun _ h => ⟨(), rfl, trivial, h⟩
theorem wake_spec {m : Tab} {c : Int} (hm : m.Ok c) (b : Nat) (i : Int) : Con Tryz.prog 92 [.pointer (some ⟨b, 0, none⟩), .int .i64 i] (fun _ => True) [cellsE b 171 (tabC m)] (fun _ : Unit => .tuple #[]) (fun _ => True) (fun _ => [cellsE b 171 (tabC (turnM m i 0))]) := by
  intro w hE hH
  refine enter (n := 7) (vs := [.pointer (some ⟨b, 0, none⟩), .int .i64 i]) (St w [b] [cellsE b 171 (tabC m)]) func92 I I I (St.init hH) ?_
  refine Cr I (Lm I (Lm I (l_e I (e_call_11 (turn_spec hm b i 0) I I I call150 I Tt ?_))))
  intro _ _
  refine l_nil (r_normal (r_none I ?_))
  exact fun _ h => ⟨(), rfl, trivial, h⟩
theorem end_spec {m : Tab} {c : Int} (hm : m.Ok c) (b : Nat) (i : Int) : Con Tryz.prog 93 [.pointer (some ⟨b, 0, none⟩), .int .i64 i] (fun _ => True) [cellsE b 171 (tabC m)] (fun _ : Unit => .tuple #[]) (fun _ => True) (fun _ => [cellsE b 171 (tabC (turnM m i 2))]) := by
  intro w hE hH
  refine enter (n := 7) (vs := [.pointer (some ⟨b, 0, none⟩), .int .i64 i]) (St w [b] [cellsE b 171 (tabC m)]) func93 I I I (St.init hH) ?_
  refine Cr I (Lm I (Lm I (l_e I (e_call_11 (turn_spec hm b i 2) I I I call150 I Tt ?_))))
  intro _ _
  refine l_nil (r_normal (r_none I ?_))
  exact fun _ h => ⟨(), rfl, trivial, h⟩
theorem wait_spec {m : Tab} {c : Int} (hm : m.Ok c) (b : Nat) (i : Int) : Con Tryz.prog 95 [.pointer (some ⟨b, 0, none⟩), .int .i64 i] (fun _ => True) [cellsE b 171 (tabC m)] (fun _ : Unit => .int .i64 (if 0 ≤ i ∧ i < m.n then m.wt.getD i.toNat 0 else 0)) (fun _ => True) (fun _ => [cellsE b 171 (tabC m)]) := by
  intro w hE hH
  by_cases hi : 0 ≤ i ∧ i < m.n
  · obtain ⟨k, rfl⟩ := Int.eq_ofNat_of_zero_le hi.1
    have hk : k < m.n := by omega
    have h8 := hm.n8
    refine enter (n := 15) (vs := [.pointer (some ⟨b, 0, none⟩), .int .i64 k]) (St w [b] [cellsE b 171 (tabC m)]) func95 I I I (St.init hH) ?_
    refine Cs I (Ak I (c_seq (Cs I (Lm I (Lm I (l_e I (e_call_11 (is_spec hm b k) I I I call151 I Tt ?_)))))))
    intro _ _
    refine Lq I (q_not I I) (Nk (Sb 8 false I (by simp; omega) (c_false I (c_skip (Kt (Cs I (Lm I (Lm I (Lc I (Lfa U171 I Z169 I (Lq I (q_indexArr k I U169 Z3 I I I (by omega)) (Lq I (q_loadC I G3 I (Hat 0 I) (tab_wt hm (k := k) (by omega) (by simp))) (Ak I (c_ret (r_one I I ?_)))))))))))))))
    exact fun _ h => ⟨(), by rw [if_pos hi]; rfl, trivial, h⟩
  · refine enter (n := 15) (vs := [.pointer (some ⟨b, 0, none⟩), .int .i64 i]) (St w [b] [cellsE b 171 (tabC m)]) func95 I I I (St.init hH) ?_
    refine Cs I (Ak I (c_seq (Cs I (Lm I (Lm I (l_e I (e_call_11 (is_spec hm b i) I I I call151 I Tt ?_)))))))
    intro _ _
    refine Lq I (q_not I I) (Nk (Sb 8 true I (by simp only [Bool.not_eq_true', decide_eq_false_iff_not]; exact hi) (c_true I (Cs I (Ak I (c_ret (k_then_ret (r_one I I ?_))))))))
    exact fun _ h => ⟨(), by rw [if_neg hi], trivial, h⟩
theorem runnable_spec {m : Tab} {c : Int} (hm : m.Ok c) (b : Nat) : Con Tryz.prog 76 [.pointer (some ⟨b, 0, none⟩)] (fun _ => True) [cellsE b 171 (tabC m)] (fun v : Value => v) (fun _ => True) (fun v => [rowE v 3 (encI .i64) (nints (runM m)), cellsE b 171 (tabC m)]) := by
  intro w hE hH
  have h8 := hm.n8
  refine enter (n := 28) (vs := [.pointer (some ⟨b, 0, none⟩)]) (St w [b] [cellsE b 171 (tabC m)]) func76 I I I (St.init hH) ?_
  refine Cs I (Ak I (Cs I (Ak I (c_seq (c_seq (D4 [(0,O),(1,O),(2,O),(3,O),(4,O),(5,O),(6,O),(7,O),(8,O),(9,O)] [] [(_,O),(_,O),(_,O),(_,O),(_,O),(_,O),(_,O),(_,O),(_,O),(_,O)] _ I I I I St.drawn Ih (Dm I (Dc I (Dfa U171 I sizeOf168 I (Dm I (Dc I (Dfa U171 I Z3 I (Dq I (q_loadC I G3 I (Hat 0 I) I) (Dq I (q_sliceArrH m.n I underlying168 sizeOf167 I I I (by omega)) (Dq I (q_len I underlying224 I) (Dm I (d_nil (Kt (c_block (row0 3 (encI .i64) none ?_))))))))))))))))))))
  refine c_loop2 (fun (k : Nat) (v : Value) => [(3, v), (13, .slice (some ⟨b, 0 + 1, none⟩) m.n 8), (14, .int .i64 (m.n : Int)), (15, .int .i64 (k : Int))]) (fun (k : Nat) (v : Value) => St w [b] [rowE v 3 (encI .i64) (runTo m k), cellsE b 171 (tabC m)]) (fun (k : Nat) (v : Value) => k ≤ m.n) (fun (k : Nat) (v : Value) => m.n - k) (0) (.slice none 0 0) (Nat.zero_le _) (Sn I (Sn I (Sn I (Sn I (Sub.nil))))) Ih ?_
  intro k v hk
  refine Cs I (Lq I (q_lss I I I) (Ns ?_))
  refine Pre.caseB 16 I (fun h => ?_) (fun h => ?_)
  · simp only [B4] at h
    have hlen := runTo_len m k
    refine c_true I (c_skip (Ks (c_block (Cs I (Lm I (Lq I (q_indexAddr k I underlying224 sizeOf167 I I I (by omega)) (Lq I (q_loadC I isAgg167 I (Hat 1 I) (tab_st hm (k := k) (by omega) (by simp))) (Las I (Ak I (Cs I (Lm I (Lq I (q_eql I I I) (Nk ?_)))))))))))))
    refine Pre.caseB 21 I (fun h2 => ?_) (fun h2 => ?_)
    · simp only [B4] at h2
      refine c_true I (Cr I (Lm I (Lm I (l_e I (e_buildSliceV (sz := 1) [.tmp 23] I I I I I U22 Z3 I zeroValue3 I ?_)))))
      intro b2
      refine pull1 (l_e I (e_append I I I U22 U22 info3 I I I I I (fun _ h => lit_rd (h.at 1 I) (encI .i64) [(k : Int)] I I) (by simp only [byt3, List.length_append, List.length_cons, List.length_nil]; omega) (by simp only [List.length_append, List.length_cons, List.length_nil]; omega) ?_))
      intro v2
      refine row_eq (runTo_yes h2) (pull1 (drop0 (Las I (l_nil (k_block (Kt (Cr I (Lq I (q_inc I I I (by omega)) (Lm I (l_nil ?_))))))))))
      exact k_round ((k + 1, v2)) (by dsimp only; omega) (by dsimp only; omega) (Sub.cons I (Sub.cons I (Sub.cons I (Sub.cons I (Sub.nil))))) (fun _ h => h)
    · simp only [B4] at h2
      refine c_false I (c_skip (k_block (Kt (Cr I (Lq I (q_inc I I I (by omega)) (Lm I (l_nil ?_)))))))
      exact k_round ((k + 1, v)) (by dsimp only; omega) (by dsimp only; omega) (Sub.cons I (Sub.cons I (Sub.cons I (Sub.cons I (Sub.nil))))) (fun _ h => by rw [← runTo_no h2]; exact h)
  · simp only [B4] at h
    have hk2 : k = m.n := by omega
    refine c_false I (c_exit (k_then_exit (k_then_exit (k_block_exit (Kt (Cs I (Lm I (Ak I (c_ret (r_one I I ?_))))))))))
    exact fun _ h => ⟨v, rfl, trivial, by rw [hk2, runTo_n] at h; exact h⟩
theorem pick_spec {m : Tab} {c : Int} (hm : m.Ok c) (hc0 : c ≤ 1000000) (b : Nat) (p : Int) : Con Tryz.prog 38 [.pointer (some ⟨b, 0, none⟩), .int .i64 p] (fun _ => True) [cellsE b 171 (tabC m)] (fun _ : Unit => .tuple #[.int .i64 (whoM m p : Int), .bool (decide (runM m ≠ []))]) (fun _ => True) (fun _ => [cellsE b 171 (tabC (pickM m p))]) := by
  intro w hE hH
  have h8 := hm.n8
  have hrl := runM_len m
  have hq := who_lt (m := m) p
  refine enter (n := 77) (vs := [.pointer (some ⟨b, 0, none⟩), .int .i64 p]) (St w [b] [cellsE b 171 (tabC m)]) func38 I I I (St.init hH) ?_
  refine Cs I (Las I (Ak I (Cs I (Lm I (l_e I (e_call_12 (runnable_spec hm b) I I I call76 I Tt ?_))))))
  intro v _
  refine Ak I (Cs I (Lm I (Lq I (q_lenV I U22 I (Hrd 0 I)) (Ak I (c_seq (Cs I (Lm I (Lq I (q_eql I I I) (Nk ?_)))))))))
  refine Pre.caseB 16 I (fun h0 => ?_) (fun h0 => ?_)
  · simp only [B4] at h0
    have h00 : runM m = [] := by simpa [nints] using h0
    have hP : pickM m p = m := by unfold pickM; rw [if_pos h00]
    refine c_true I (Cs I (Las I (Ak I (c_ret (k_then_ret (r_many (rs := [.tmp 4, .tmp 5]) I I ?_))))))
    exact fun _ h => ⟨(), by simp [whoM, h00], trivial, by rw [hP]; exact h.drop⟩
  · simp only [B4] at h0
    have h00 : runM m ≠ [] := by simpa [nints] using h0
    have hlen : 0 < (runM m).length := List.length_pos_iff.2 h00
    have hnl : (nints (runM m)).length = (runM m).length := nints_len _
    have hjl := who_lt p h00
    have hjg := nints_get (who_get p h00)
    have hwl := runM_lt (who_mem p h00)
    have b1 := Int.tmod_lt_of_pos p (show (0 : Int) < ((nints (runM m)).length : Int) by omega)
    have b2 : -((nints (runM m)).length : Int) < p.tmod ((nints (runM m)).length : Int) := Int.lt_tmod_of_pos p (by omega)
    have hrest := tmod_rest (p := p) (n := ((nints (runM m)).length : Int)) (by omega)
    have hnn := Int.emod_nonneg p (show ((runM m).length : Int) ≠ 0 by omega)
    have hP : pickM m p = toldM (stepsM (whoM m p) m (runM m)) (whoM m p) := by unfold pickM; rw [if_neg h00]
    generalize whoM m p = t at *
    refine c_false I (c_skip (Kt (Cs I (Lm I (Lm I (Lm I (Lq I (q_rem I I I (by omega)) (Lm I (Lq I (q_add64 I I I (by omega)) (Lm I (Lq I (q_rem_nn I I I (by omega) (by omega)) (Sv' 24 (.int .i64 ((((p % ((runM m).length : Int)).toNat) : Nat) : Int)) I (by rw [hrest, hnl, Int.toNat_of_nonneg hnn]) (Lq I (q_indexV ((p % ((runM m).length : Int)).toNat) I U22 Z3 I (Hrd 0 I) I I (by omega)) (Lq I (q_loadV ((p % ((runM m).length : Int)).toNat) 0 I G3 I I (Hrd 0 I) hjg I) (Ak I (c_seq (Cs I (Lm I (Lq I (q_lenV I U22 I (Hrd 0 I)) (Lm I (Nk (c_block ?_))))))))))))))))))))))
    refine c_loop1 (fun (i : Nat) => [(0, .pointer (some ⟨b, 0, none⟩)), (8, .int .i64 (t : Int)), (27, v), (28, .int .i64 ((nints (runM m)).length : Int)), (29, .int .i64 (i : Int))]) (fun (i : Nat) => St w [b] [rowE v 3 (encI .i64) (nints (runM m)), cellsE b 171 (tabC (stepsM t m ((runM m).take i)))]) (fun (i : Nat) => i ≤ (runM m).length) (fun (i : Nat) => (runM m).length - i) (0) (Nat.zero_le _) (Sn I (Sn I (Sn I (Sn I (Sn I (Sub.nil)))))) Ih ?_
    intro i hi
    refine Cs I (Lq I (q_lss I I I) (Ns ?_))
    refine Pre.caseB 30 I (fun h1 => ?_) (fun h1 => ?_)
    · simp only [B4] at h1
      have hi2 : i < (runM m).length := by omega
      obtain ⟨x, hg⟩ : ∃ x, (runM m)[i]? = some x := ⟨_, List.getElem?_eq_getElem hi2⟩
      have hg2 := nints_get hg
      have hx := runM_lt (List.mem_of_getElem? hg)
      have hmi := steps_ok t ((runM m).take i) hm (fun z hz => runM_lt (List.mem_of_mem_take hz))
      have hni := steps_n t ((runM m).take i) m
      have hsn := (congrArg (stepsM t m) (take_snoc' hg)).trans (steps_snoc t m _ x)
      generalize stepsM t m ((runM m).take i) = M at *
      have hwx := hmi.wt0 x (by omega)
      have hw0 := hmi.w0
      have hxM : x < M.n := by omega
      have hc : c + ((runM m).take i).length ≤ 4611686018427387904 := by have := List.length_take_le i (runM m); omega
      refine c_true I (c_skip (Ks (c_block (Cs I (Lq I (q_indexV i I U22 Z3 I (Hrd 0 I) I I (by omega)) (Lq I (q_loadV i 0 I G3 I I (Hrd 0 I) hg2 I) (Ak I (Cs I (Lm I (Lm I (Lq I (q_neq I I I) (Nk ?_))))))))))))
      refine Pre.caseB 35 I (fun h2 => ?_) (fun h2 => ?_)
      · simp only [B4] at h2
        have hxt : x ≠ t := by omega
        unfold stepM at hsn
        rw [if_neg hxt] at hsn
        have hm1 : Tab.Ok { M with wt := M.wt.set x (M.wt.getD x 0 + 1) } (c + ((runM m).take i).length + 1) := by have := step_ok hmi hxM t; unfold stepM at this; rw [if_neg hxt] at this; exact ⟨this.n1, this.n8, this.st, this.wt, this.pk, this.wt0, this.pk0, by simp only; omega⟩
        have hg1 : (M.wt.set x (M.wt.getD x 0 + 1)).getD x 0 = M.wt.getD x 0 + 1 := by rw [getD_set, if_pos ⟨rfl, by rw [hmi.wt]; exact hxM⟩]
        refine c_true I (c_seq (D4 [(0,O),(1,O),(2,O),(3,O),(4,O),(5,O),(6,O),(7,O),(8,O),(9,O),(10,W)] [10] [(_,O),(_,O),(_,O),(_,O),(_,O),(_,O),(_,O),(_,O),(_,O),(_,O),(_,W)] _ I I I I St.drawn Ih (Dm I (Dm I (Dc I (Dfa U171 I Z169 I (Dq I (q_indexArr x I U169 Z3 I I I (by omega)) (Dq I (q_loadC I G3 I (Hat 1 I) (tab_wt hmi (k := x) hxM (by simp))) (Dq I (q_add64 I I I (by omega)) (Dc I (Dfa U171 I Z169 I (Dq I (q_indexArr x I U169 Z3 I I I (by omega)) (pull1 (d_t I (e_store I I Z3 I I I (by rw [tab_len hmi]; show 0 + 9 + x * 1 < 26; omega) (cells_eq (set_wt hmi (M.wt.getD x 0 + 1) (k := x) hxM (by simp)) (d_nil (Kt (D4 [(0,O),(1,O),(2,O),(3,O),(4,O),(5,O),(6,O),(7,O),(8,O),(9,O),(10,O),(11,O),(12,O),(13,O),(14,W)] [14] [(_,O),(_,O),(_,O),(_,O),(_,O),(_,O),(_,O),(_,O),(_,O),(_,O),(_,O),(_,O),(_,O),(_,O),(_,W)] _ I I I I St.drawn Ih (Dm I (Dm I (Dc I (Dfa U171 I Z3 I ?_)))))))))))))))))))))))
        refine Dq I (q_loadC I G3 I (Hat 0 I) (tab_worst hm1 I)) (Dm I (Dm I (Dc I (Dfa U171 I Z169 I (Dq I (q_indexArr x I U169 Z3 I I I (by omega)) (Dq I (q_loadC I G3 I (Hat 0 I) ((tab_wt hm1 (k := x) hxM (by simp)).trans (by show some (Value.int .i64 ((M.wt.set x (M.wt.getD x 0 + 1)).getD x 0)) = _; rw [hg1]))) (Dq I (q_max I I I) (Dc I (Dfa U171 I Z3 I (d_t I (e_store I I Z3 I I I (by rw [tab_len hm1]; show 0 + 25 < 26; omega) (cells_eq (set_worst hm1 _ I) (d_nil (k_block (Kt (Cr I (Lq I (q_inc I I I (by omega)) (Lm I (l_nil (pull1 ?_))))))))))))))))))))
        exact k_round (i + 1) (by omega) (by omega) (Sub.cons I (Sub.cons I (Sub.cons I (Sub.cons I (Sub.cons I (Sub.nil)))))) (fun _ h => by rw [hsn]; exact h)
      · simp only [B4] at h2
        have hxt : x = t := by omega
        unfold stepM at hsn
        rw [if_pos hxt] at hsn
        refine c_false I (c_skip (k_block (Kt (Cr I (Lq I (q_inc I I I (by omega)) (Lm I (l_nil ?_)))))))
        exact k_round (i + 1) (by omega) (by omega) (Sub.cons I (Sub.cons I (Sub.cons I (Sub.cons I (Sub.cons I (Sub.nil)))))) (fun _ h => by rw [hsn]; exact h)
    · simp only [B4] at h1
      have hfin : (runM m).take i = runM m := List.take_of_length_le (by omega)
      have hmi := steps_ok t (runM m) hm (fun z hz => runM_lt hz)
      have hni := steps_n t (runM m) m
      rw [hfin]
      unfold toldM at hP
      generalize stepsM t m (runM m) = M at *
      have htM : t < M.n := by omega
      have hpt := hmi.pk0 t htM
      have hw0 := hmi.w0
      have hm1 : Tab.Ok { M with wt := M.wt.set t 0 } (c + (runM m).length) := ⟨hmi.n1, hmi.n8, hmi.st, by simp [hmi.wt], hmi.pk, fun k hk => by have := hmi.wt0 k hk; simp only [getD_set]; split <;> omega, hmi.pk0, hmi.w0⟩
      refine c_false I (c_exit (k_then_exit (k_then_exit (k_block_exit (Kt (Cs I (Lm I (Lm I (Lc I (Lfa U171 I Z169 I (Lq I (q_indexArr t I U169 Z3 I I I (by omega)) (pull1 (l_e I (e_store I I Z3 I I I (by rw [tab_len hmi]; show 0 + 9 + t * 1 < 26; omega) (cells_eq (set_wt hmi 0 (k := t) htM (by simp)) (Ns (D4 [(0,O),(1,O),(2,O),(3,O),(4,O),(5,O),(6,O),(7,O),(8,O),(9,O),(10,W)] [10] [(_,O),(_,O),(_,O),(_,O),(_,O),(_,O),(_,O),(_,O),(_,O),(_,O),(_,W)] _ I I I I St.drawn Ih (Dm I (Dm I (Dc I (Dfa U171 I Z169 I (Dq I (q_indexArr t I U169 Z3 I I I (by omega)) (Dq I (q_loadC I G3 I (Hat 0 I) (tab_pk hm1 (k := t) htM (by simp))) ?_)))))))))))))))))))))))
      refine Dq I (q_add64 I I I (by show _ ≤ M.pk.getD t 0 + 1 ∧ M.pk.getD t 0 + 1 ≤ _; omega)) (Dc I (Dfa U171 I Z169 I (Dq I (q_indexArr t I U169 Z3 I I I (by omega)) (d_t I (e_store I I Z3 I I I (by rw [tab_len hm1]; show 0 + 17 + t * 1 < 26; omega) (cells_eq (set_pk hm1 _ (k := t) htM (by simp)) (d_nil (Kt (Cs I (Lm I (Las I (Ak I (c_ret (r_many (rs := [.tmp 4, .tmp 5]) I I ?_))))))))))))))
      exact fun _ h => ⟨(), by rw [show decide (runM m ≠ []) = true from by simpa using h00], trivial, by rw [hP]; exact h.sublist (List.cons_sublist_cons.2 (List.nil_sublist _))⟩
theorem new_yes {n : Nat} (h1 : 1 ≤ n) (h8 : n ≤ 8) : Con Tryz.prog 53 [.int .i64 (n : Int)] (fun _ => True) [] (fun b : Nat => .tuple #[.pointer (some ⟨b, 0, none⟩), .int .i64 0]) (fun _ => True) (fun b => [cellsE b 171 (tabC (newM n))]) := by
  intro w hE hH
  refine enter (n := 13) (vs := [.int .i64 (n : Int)]) (St w [] []) func53 I I I (St.init hH) ?_
  refine Cs I (Las I (Ak I (c_seq (Cs I (Lm I (Lq I (q_lss I I I) (Lm I (Sb 6 false I (decide_eq_false (by omega)) (Lm I (Lq I (q_gtr I I I) (Lq I (q_pick_f I I I) (Nk (Sb 9 false I (decide_eq_false (by omega)) (c_false I (c_skip (Kt (Cs I (Lm I (Lq I (q_build (.int .i64 (n : Int) :: List.replicate 25 (.int .i64 0)) I I (fun w => by kernel_rfl)) (l_e I (e_box I I I I ?_)))))))))))))))))))))
  intro b
  refine cells_eq (tab_new h8).symm (Las I (Ak I (c_ret (r_many (rs := [.tmp 2, .tmp 3]) I I ?_))))
  exact fun _ h => ⟨b, rfl, trivial, h⟩
end Go.Proofs.YtloldofjddbjoaaGreat.Sc
namespace Go.Proofs.YtloldofjddbjoaaGreat
open Go.Sep Go.RowKit Tryz
inductive Tk where
  | c (b : Nat)
  | f (b : Nat)
  | e
def Tk.v : Tk → Value
  | .c b => .iface 103 (ptV b)
  | .f b => .iface 108 (.agg #[ptV b])
  | .e => .iface 111 (.agg #[])
def Tk.enc : Enc Tk := ⟨1, fun t => [t.v], fun _ => rfl, fun a u h => by simp at h; subst h; cases a <;> rfl, by decide⟩
abbrev FLE (b : Nat) (t : Int) : Ent := cellsE b 179 [.int .i64 t, .int .i64 1, .bool false, .bool false, .pointer none, .int .i64 0, .int .i64 0]
def CLs : Nat → List CC → List Ent
  | _, [] => []
  | k, c :: cs => c.H (k : Int) ++ CLs (k + 1) cs
def CLo : Nat → Nat → List CC → List Ent
  | _, _, [] => []
  | k, 0, _ :: cs => CLs (k + 1) cs
  | k, i + 1, c :: cs => c.H (k : Int) ++ CLo (k + 1) i cs
def FLs : Nat → List Nat → List Ent
  | _, [] => []
  | k, b :: bs => FLE b (k : Int) :: FLs (k + 1) bs
def FLo : Nat → Nat → List Nat → List Ent
  | _, _, [] => []
  | k, 0, _ :: bs => FLs (k + 1) bs
  | k, i + 1, b :: bs => FLE b (k : Int) :: FLo (k + 1) i bs
theorem cl_out : ∀ {cs : List CC} {k i : Nat} {c : CC}, cs[i]? = some c → (CLs k cs).Perm (c.H ((k + i : Nat) : Int) ++ CLo k i cs)
  | [], k, i, c, h => by simp at h
  | x :: cs, k, 0, c, h => by simp at h; subst h; exact List.Perm.refl _
  | x :: cs, k, i + 1, c, h => by
    have ih := cl_out (cs := cs) (k := k + 1) (i := i) (c := c) (by simpa using h)
    rw [show k + 1 + i = k + (i + 1) by omega] at ih
    exact (ih.append_left (x.H (k : Int))).trans (List.perm_append_comm_assoc _ _ _)
theorem cl_in : ∀ {cs : List CC} {k i : Nat} (c : CC), i < cs.length → (c.H ((k + i : Nat) : Int) ++ CLo k i cs).Perm (CLs k (cs.set i c))
  | [], k, i, c, h => by simp at h
  | x :: cs, k, 0, c, h => List.Perm.refl _
  | x :: cs, k, i + 1, c, h => by
    have ih := cl_in (cs := cs) (k := k + 1) (i := i) c (by simpa using h)
    rw [show k + 1 + i = k + (i + 1) by omega] at ih
    exact (List.perm_append_comm_assoc _ _ _).trans (ih.append_left (x.H (k : Int)))
theorem fl_out : ∀ {bs : List Nat} {k i : Nat} {b : Nat}, bs[i]? = some b → (FLs k bs).Perm (FLE b ((k + i : Nat) : Int) :: FLo k i bs)
  | [], k, i, c, h => by simp at h
  | x :: cs, k, 0, c, h => by simp at h; subst h; exact List.Perm.refl _
  | x :: cs, k, i + 1, c, h => by
    have ih := fl_out (bs := cs) (k := k + 1) (i := i) (b := c) (by simpa using h)
    rw [show k + 1 + i = k + (i + 1) by omega] at ih
    exact (ih.cons (FLE x (k : Int))).trans (List.Perm.swap _ _ _)
structure HC where
  bH : Nat
  bt : Nat
  vT : Value
  vO : Value
  vE : Value
  cc : List CC
  fl : List Nat
  x : HQ
structure HM where
  L : Lf
  cs : List Cl
  nf : Nat
  sq : Int
  pk : Nat
  ev : List Evt
  T : Sc.Tab
def HC.tks (h : HC) : List Tk := h.cc.map (fun c => Tk.c c.b) ++ (h.fl.map Tk.f ++ [Tk.e])
abbrev HC.tl (h : HC) : List Ent := CLs 0 h.cc ++ (FLs h.cc.length h.fl ++ h.x.H)
abbrev HC.H (h : HC) (m : HM) : List Ent := HSE h.bH (ptV h.x.bh) h.bt h.vT h.vO h.vE m.sq m.pk :: rowE h.vE 71 Evt.enc m.ev :: rowE h.vT 102 Tk.enc h.tks :: cellsE h.bt 171 (Sc.tabC m.T) :: h.tl
structure HOk (h : HC) (m : HM) (B : Nat) : Prop where
  lh : LH h.x m.L B
  cs : h.cc.map CC.m = m.cs
  nf : h.fl.length = m.nf
  tn : m.T.n = m.cs.length + (m.nf + 1)
  tok : m.T.Ok ((B * 10 : Nat) : Int)
  n8 : m.cs.length + (m.nf + 1) ≤ 8
  ol : ∀ c ∈ m.cs, c.ops.length ≤ 1000 ∧ c.nx ≤ c.ops.length ∧ (c.ph ≠ .idle → c.nx < c.ops.length)
  ev : m.ev.length ≤ B
  sq : 1 ≤ m.sq ∧ m.sq ≤ B + 1
  pk : m.pk ≤ B
theorem HOk.len {h : HC} {m : HM} {B : Nat} (k : HOk h m B) : h.cc.length = m.cs.length := by rw [← k.cs, List.length_map]
theorem HOk.tlen {h : HC} {m : HM} {B : Nat} (k : HOk h m B) : h.tks.length = m.T.n := by
  unfold HC.tks
  rw [k.tn]
  simp [k.len, k.nf]
theorem HOk.at {h : HC} {m : HM} {B : Nat} (k : HOk h m B) {i : Nat} {c : CC} (hc : h.cc[i]? = some c) : m.cs[i]? = some c.m := by rw [← k.cs, List.getElem?_map, hc]; rfl
theorem HOk.tk {h : HC} {m : HM} {B : Nat} (k : HOk h m B) {i : Nat} {a : Tk} (ha : h.tks[i]? = some a) : (∃ c, h.cc[i]? = some c ∧ a = Tk.c c.b) ∨ (∃ b, m.cs.length ≤ i ∧ h.fl[i - m.cs.length]? = some b ∧ a = Tk.f b) ∨ (m.cs.length + m.nf = i ∧ a = Tk.e) := by
  unfold HC.tks at ha
  by_cases h1 : i < h.cc.length
  · rw [List.getElem?_append_left (by simpa using h1), List.getElem?_map] at ha
    obtain ⟨c, hc⟩ : ∃ c, h.cc[i]? = some c := ⟨_, List.getElem?_eq_getElem h1⟩
    rw [hc] at ha; cases ha
    exact .inl ⟨c, hc, rfl⟩
  · rw [List.getElem?_append_right (by simp; omega), List.length_map] at ha
    by_cases h2 : i - h.cc.length < h.fl.length
    · rw [List.getElem?_append_left (by simpa using h2), List.getElem?_map] at ha
      obtain ⟨b, hb⟩ : ∃ b, h.fl[i - h.cc.length]? = some b := ⟨_, List.getElem?_eq_getElem h2⟩
      rw [hb] at ha; cases ha
      rw [k.len] at hb h1
      exact .inr (.inl ⟨b, by omega, hb, rfl⟩)
    · rw [List.getElem?_append_right (by simp; omega), List.length_map] at ha
      have h3 : i - h.cc.length - h.fl.length = 0 := by
        have := (List.getElem?_eq_some_iff.1 ha).1
        simp at this; omega
      rw [h3] at ha; cases ha
      rw [k.nf] at h2 h3
      rw [k.len] at h1 h2 h3
      exact .inr (.inr ⟨by omega, rfl⟩)
theorem perm_c (a b c d : Ent) (C C' F X : List Ent) : (a :: b :: c :: d :: ((C ++ C') ++ (F ++ X))).Perm ((a :: b :: (C ++ X)) ++ (c :: d :: (C' ++ F))) := by
  refine List.Perm.cons a (List.Perm.cons b ?_)
  refine List.Perm.trans ?_ (List.perm_append_comm (l₁ := c :: d :: (C' ++ F)) (l₂ := C ++ X))
  show (c :: d :: _).Perm (c :: d :: ((C' ++ F) ++ (C ++ X)))
  refine List.Perm.cons c (List.Perm.cons d ?_)
  rw [List.append_assoc, List.append_assoc]
  exact (List.perm_append_comm_assoc C C' (F ++ X)).trans ((List.perm_append_comm_assoc C F X).append_left C')
theorem perm_t (a b c d : Ent) (Y : List Ent) : (a :: b :: c :: d :: Y).Perm (a :: c :: b :: d :: Y) := List.Perm.cons a (List.Perm.swap _ _ _)
theorem perm_x (a b c d : Ent) (C F X : List Ent) : (a :: b :: c :: d :: (C ++ (F ++ X))).Perm ((a :: c :: X) ++ (b :: d :: (C ++ F))) := by
  refine (perm_t a b c d _).trans (List.Perm.cons a (List.Perm.cons c ?_))
  refine List.Perm.trans ?_ (List.perm_append_comm (l₁ := b :: d :: (C ++ F)) (l₂ := X))
  show (b :: d :: _).Perm (b :: d :: ((C ++ F) ++ X))
  rw [List.append_assoc]
def mayC (t : Int) (L : Lf) (c : Cl) : Bool := match c.ph with
  | .idle => !decide (c.nx = c.ops.length)
  | _ => L.mayH t
def mayI (m : HM) (i : Nat) : Bool := match m.cs[i]? with
  | some c => mayC (i : Int) m.L c
  | none => false
def stI (m : HM) (i : Nat) : Int := if mayI m i = true then 0 else match m.cs[i]? with
  | some c => if c.ended = true then 2 else 1
  | none => 1
def tellT (m : HM) : Nat → Sc.Tab → Sc.Tab
  | 0, T => T
  | k + 1, T => Sc.turnM (tellT m k T) (k : Int) (stI m k)
theorem tellT_n (m : HM) : ∀ (k : Nat) (T : Sc.Tab), (tellT m k T).n = T.n
  | 0, T => rfl
  | k + 1, T => by show (Sc.turnM _ _ _).n = _; rw [Sc.turn_n, tellT_n m k T]
theorem tellT_ok (m : HM) {c : Int} : ∀ (k : Nat) {T : Sc.Tab}, T.Ok c → (tellT m k T).Ok c
  | 0, T, h => h
  | k + 1, T, h => Sc.turn_ok (tellT_ok m k h) _ _
theorem frest (b : Nat) (t : Int) : Con Tryz.prog 147 [ptV b] (fun _ => True) [FLE b t] (fun _ : Unit => .bool true) (fun _ => True) (fun _ => [FLE b t]) := by
  intro w hE hH
  refine enter (n := 15) (vs := [ptV b]) (St w (dom [FLE b t]) [FLE b t]) func147 I I I (St.init hH) ?_
  refine Cs I (Ak I (Cs I (Lm I (Lc I (Lfa underlying179 I Z3 I (Lo G3 0 I (Lq I (q_eql I I I) (Lm I (Sb 8 true I (I) (Lm I (Lc I (Lfa underlying179 I Z4 I (Lo G4 0 I (Lq I (q_not I I) (Lq I (q_pick_t I I I) (Ak I (c_ret (r_one I I ?_))))))))))))))))))
  exact fun _ h => ⟨(), rfl, trivial, h⟩
theorem fdue {x : HQ} {L : Lf} {B : Nat} (h : LH x L B) : Con Tryz.prog 148 [ptV x.bh] (fun _ => True) (x.H) (fun _ : Unit => .bool false) (fun _ => True) (fun _ => x.H) := by
  intro w hE hH
  refine enter (n := 15) (vs := [ptV x.bh]) (St w (dom (x.H)) (x.H)) func148 I I I (St.init hH) ?_
  refine c_seq ?_
  have hlf : (if L.r.st = 2 then L.r.nd else ndL).leaf = true := by
    by_cases h2 : L.r.st = 2
    · obtain ⟨es, hnd, _⟩ := h.nd2 h2
      rw [if_pos h2, hnd]; rfl
    · rw [if_neg h2]; rfl
  refine Cr I (Ak I (Cs I (Lm I (l_e I (e_callH [] (llook h) I I I call71 I Tt ?_)))))
  intro s _
  refine Pre.world (St _ _ (_ :: _ :: _ :: _ :: HQ.H (x))) Ih ?_
  refine Lm I (Lq I (q_extract I I I) (Lq I (q_extract I I I) (l_e I (e_alloc I I I zeroValue135 ?_))))
  intro bn
  refine cells_eq (show _ = nv0.c from I) (l_e I (e_storeAgg I I Z135 I I I (NV.one _) (by show 0 + 5 ≤ 5; decide) (cells_eq (show Sep.splice _ 0 ((⟨s, if L.r.st = 2 then L.r.nd else ndL⟩ : NV)).c = ((⟨s, if L.r.st = 2 then L.r.nd else ndL⟩ : NV)).c from Sep.splice_all I) (Ak I (Cs I (Lm I (Lm I (Lq I (q_loadCAgg ((⟨s, if L.r.st = 2 then L.r.nd else ndL⟩ : NV).c) I G135 Z135 I (Hat 0 I) (I) (I)) (l_e I (e_call_00 (nheavy_leaf (⟨s, if L.r.st = 2 then L.r.nd else ndL⟩ : NV) hlf) I I I call136 I Tt ?_))))))))))
  intro _ _
  refine Lq I (q_pick_t I I I) (Ak I (c_ret (pull10 (pull10 (pull10 (pull10 (pull10 (pull10 (pull10 (pull10 (pull10 (pull10 (pull10 (drop0 (drop0 (drop0 (drop0 (drop0 (r_one I I ?_)))))))))))))))))))
  exact fun _ h => ⟨(), rfl, trivial, h⟩
theorem may_i {x : HQ} {L : Lf} {B : Nat} (h : LH x L B) (bH bt : Nat) (vT vO vE : Value) (sq pk : Int) (tks : List Tk) (i : Nat) (hi : tks.length ≤ 8) (b nx : Nat) (vo : Value) (ops : List Opn) (more : List Ent) (hk : tks[i]? = some (.c b)) : Con Tryz.prog 91 [ptV bH, .int .i64 (i : Int)] (fun _ => True) (HSE bH (ptV x.bh) bt vT vO vE sq pk :: rowE vT 102 Tk.enc tks :: CLE b vo nx [.pointer none, .pointer none] :: rowE vo 43 Opn.enc ops :: (more ++ x.H)) (fun _ : Unit => .bool (!decide (nx = ops.length))) (fun _ => True) (fun _ => HSE bH (ptV x.bh) bt vT vO vE sq pk :: rowE vT 102 Tk.enc tks :: CLE b vo nx [.pointer none, .pointer none] :: rowE vo 43 Opn.enc ops :: (more ++ x.H)) := by
  intro w hE hH
  have hkl := (List.getElem?_eq_some_iff.1 hk).1
  refine enter (n := 63) (vs := [ptV bH, .int .i64 (i : Int)]) (St w (dom (HSE bH (ptV x.bh) bt vT vO vE sq pk :: rowE vT 102 Tk.enc tks :: CLE b vo nx [.pointer none, .pointer none] :: rowE vo 43 Opn.enc ops :: (more ++ x.H))) (HSE bH (ptV x.bh) bt vT vO vE sq pk :: rowE vT 102 Tk.enc tks :: CLE b vo nx [.pointer none, .pointer none] :: rowE vo 43 Opn.enc ops :: (more ++ x.H))) func91 I I I (St.init hH) ?_
  refine Cs I (Ak I (c_seq (Cs I (Lm I (Lc I (Lfa U100 I Z98 I (Lo G98 0 I (Lm I (Lq I (q_indexV i I U98 Z102 I (Hrd 1 I) I I (by omega)) (Lq I (q_loadV i 0 I G102 I I (Hrd 1 I) hk I) (Nk (c_block (Cs I (Lq rfl (q_assert_yes rfl U103 (fun _ h => by cases h) rfl) (Lq I (q_extract I I I) (Lq I (q_extract I I I) (Nk (c_true I (Cs I (Ak I (c_seq (Cs I (Lm I ?_)))))))))))))))))))))))
  refine pull2 (l_e I (e_call_11 (busy_no b 0 nx vo) I I I call75 I Tt ?_))
  intro _ _
  refine Nk (c_false I (c_skip (Kt (Cs I (Lm I (pull2 (pull2 (pull3 (pull3 (l_e I (e_call_22 (ended_no b 0 nx vo ops) I I I call37 I Tt ?_)))))))))))
  intro _ _
  refine Lq I (q_not I I) (Ak I (c_ret (k_block_ret (k_then_ret (pull1 (pull1 (pull3 (pull3 (r_one I I ?_)))))))))
  exact fun _ h => ⟨(), rfl, trivial, h⟩
theorem may_r {x : HQ} {L : Lf} {B : Nat} (h : LH x L B) (bH bt : Nat) (vT vO vE : Value) (sq pk : Int) (tks : List Tk) (i : Nat) (hi : tks.length ≤ 8) (b bw nx : Nat) (vo : Value) (ops : List Opn) (more : List Ent) (hk : tks[i]? = some (.c b)) : Con Tryz.prog 91 [ptV bH, .int .i64 (i : Int)] (fun _ => True) (HSE bH (ptV x.bh) bt vT vO vE sq pk :: rowE vT 102 Tk.enc tks :: CLE b vo nx [ptV bw, .pointer none] :: rowE vo 43 Opn.enc ops :: (more ++ x.H)) (fun _ : Unit => .bool (L.mayH (i : Int))) (fun _ => True) (fun _ => HSE bH (ptV x.bh) bt vT vO vE sq pk :: rowE vT 102 Tk.enc tks :: CLE b vo nx [ptV bw, .pointer none] :: rowE vo 43 Opn.enc ops :: (more ++ x.H)) := by
  intro w hE hH
  have hkl := (List.getElem?_eq_some_iff.1 hk).1
  refine enter (n := 63) (vs := [ptV bH, .int .i64 (i : Int)]) (St w (dom (HSE bH (ptV x.bh) bt vT vO vE sq pk :: rowE vT 102 Tk.enc tks :: CLE b vo nx [ptV bw, .pointer none] :: rowE vo 43 Opn.enc ops :: (more ++ x.H))) (HSE bH (ptV x.bh) bt vT vO vE sq pk :: rowE vT 102 Tk.enc tks :: CLE b vo nx [ptV bw, .pointer none] :: rowE vo 43 Opn.enc ops :: (more ++ x.H))) func91 I I I (St.init hH) ?_
  refine Cs I (Ak I (c_seq (Cs I (Lm I (Lc I (Lfa U100 I Z98 I (Lo G98 0 I (Lm I (Lq I (q_indexV i I U98 Z102 I (Hrd 1 I) I I (by omega)) (Lq I (q_loadV i 0 I G102 I I (Hrd 1 I) hk I) (Nk (c_block (Cs I (Lq rfl (q_assert_yes rfl U103 (fun _ h => by cases h) rfl) (Lq I (q_extract I I I) (Lq I (q_extract I I I) (Nk (c_true I (Cs I (Ak I (c_seq (Cs I (Lm I ?_)))))))))))))))))))))))
  refine pull2 (l_e I (e_call_11 (busy_r b bw nx vo) I I I call75 I Tt ?_))
  intro _ _
  refine Nk (c_true I (Cs I (Lm I (Lc I (Lfa U100 I Z47 I (Lo G47 1 I (Lm I (pull3 (pull1 (pull3 (pull3 (l_e I (e_callH (_ :: _ :: _ :: _ :: more) (lmay h (i : Int)) I I I call82 I Tt ?_)))))))))))))
  intro _ _
  refine Pre.world (St _ _ (_ :: _ :: _ :: _ :: (more ++ x.H))) Ih ?_
  refine Ak I (c_ret (k_then_ret (k_block_ret (k_then_ret (r_one I I ?_)))))
  exact fun _ h => ⟨(), rfl, trivial, h⟩
theorem may_w {x : HQ} {L : Lf} {B : Nat} (h : LH x L B) (bH bt : Nat) (vT vO vE : Value) (sq pk : Int) (tks : List Tk) (i : Nat) (hi : tks.length ≤ 8) (b bw nx : Nat) (vo : Value) (ops : List Opn) (more : List Ent) (hk : tks[i]? = some (.c b)) : Con Tryz.prog 91 [ptV bH, .int .i64 (i : Int)] (fun _ => True) (HSE bH (ptV x.bh) bt vT vO vE sq pk :: rowE vT 102 Tk.enc tks :: CLE b vo nx [.pointer none, ptV bw] :: rowE vo 43 Opn.enc ops :: (more ++ x.H)) (fun _ : Unit => .bool (L.mayH (i : Int))) (fun _ => True) (fun _ => HSE bH (ptV x.bh) bt vT vO vE sq pk :: rowE vT 102 Tk.enc tks :: CLE b vo nx [.pointer none, ptV bw] :: rowE vo 43 Opn.enc ops :: (more ++ x.H)) := by
  intro w hE hH
  have hkl := (List.getElem?_eq_some_iff.1 hk).1
  refine enter (n := 63) (vs := [ptV bH, .int .i64 (i : Int)]) (St w (dom (HSE bH (ptV x.bh) bt vT vO vE sq pk :: rowE vT 102 Tk.enc tks :: CLE b vo nx [.pointer none, ptV bw] :: rowE vo 43 Opn.enc ops :: (more ++ x.H))) (HSE bH (ptV x.bh) bt vT vO vE sq pk :: rowE vT 102 Tk.enc tks :: CLE b vo nx [.pointer none, ptV bw] :: rowE vo 43 Opn.enc ops :: (more ++ x.H))) func91 I I I (St.init hH) ?_
  refine Cs I (Ak I (c_seq (Cs I (Lm I (Lc I (Lfa U100 I Z98 I (Lo G98 0 I (Lm I (Lq I (q_indexV i I U98 Z102 I (Hrd 1 I) I I (by omega)) (Lq I (q_loadV i 0 I G102 I I (Hrd 1 I) hk I) (Nk (c_block (Cs I (Lq rfl (q_assert_yes rfl U103 (fun _ h => by cases h) rfl) (Lq I (q_extract I I I) (Lq I (q_extract I I I) (Nk (c_true I (Cs I (Ak I (c_seq (Cs I (Lm I ?_)))))))))))))))))))))))
  refine pull2 (l_e I (e_call_11 (busy_w b bw nx vo) I I I call75 I Tt ?_))
  intro _ _
  refine Nk (c_true I (Cs I (Lm I (Lc I (Lfa U100 I Z47 I (Lo G47 1 I (Lm I (pull3 (pull1 (pull3 (pull3 (l_e I (e_callH (_ :: _ :: _ :: _ :: more) (lmay h (i : Int)) I I I call82 I Tt ?_)))))))))))))
  intro _ _
  refine Pre.world (St _ _ (_ :: _ :: _ :: _ :: (more ++ x.H))) Ih ?_
  refine Ak I (c_ret (k_then_ret (k_block_ret (k_then_ret (r_one I I ?_)))))
  exact fun _ h => ⟨(), rfl, trivial, h⟩
theorem may_f {x : HQ} {L : Lf} {B : Nat} (h : LH x L B) (bH bt : Nat) (vT vO vE : Value) (sq pk : Int) (tks : List Tk) (i : Nat) (hi : tks.length ≤ 8) (b : Nat) (t : Int) (hk : tks[i]? = some (.f b)) : Con Tryz.prog 91 [ptV bH, .int .i64 (i : Int)] (fun _ => True) (HSE bH (ptV x.bh) bt vT vO vE sq pk :: rowE vT 102 Tk.enc tks :: FLE b t :: x.H) (fun _ : Unit => .bool false) (fun _ => True) (fun _ => HSE bH (ptV x.bh) bt vT vO vE sq pk :: rowE vT 102 Tk.enc tks :: FLE b t :: x.H) := by
  intro w hE hH
  have hkl := (List.getElem?_eq_some_iff.1 hk).1
  refine enter (n := 63) (vs := [ptV bH, .int .i64 (i : Int)]) (St w (dom (HSE bH (ptV x.bh) bt vT vO vE sq pk :: rowE vT 102 Tk.enc tks :: FLE b t :: x.H)) (HSE bH (ptV x.bh) bt vT vO vE sq pk :: rowE vT 102 Tk.enc tks :: FLE b t :: x.H)) func91 I I I (St.init hH) ?_
  refine Cs I (Ak I (c_seq (Cs I (Lm I (Lc I (Lfa U100 I Z98 I (Lo G98 0 I (Lm I (Lq I (q_indexV i I U98 Z102 I (Hrd 1 I) I I (by omega)) (Lq I (q_loadV i 0 I G102 I I (Hrd 1 I) hk I) (Nk (c_block (Cs I (Lq rfl (q_assert_no rfl U103 (fun _ h => by cases h) rfl (by decide) zeroValue103) (Lq I (q_extract I I I) (Lq I (q_extract I I I) (Nk (c_false I (Cs I (Lq rfl (q_assert_yes rfl U108 (fun _ h => by cases h) rfl) (Lq I (q_extract I I I) (Lq I (q_extract I I I) (Nk ?_)))))))))))))))))))))))
  refine c_true I (Cs I (l_e I (e_alloc I I I zeroValue108 ?_)))
  intro bf
  refine cells_eq (show _ = [.pointer none] from I) (l_e I (e_storeAgg rfl rfl sizeOf108 rfl rfl rfl (by intro v hv; simp at hv; subst hv; rfl) (Nat.le_of_ble_eq_true rfl) (cells_eq (show _ = [ptV b] from I) (Ns (Cs I (Lfa U108 I sizeOf106 I (Lo isAgg106 0 I (pull3 (l_e I (e_call_11 (frest b t) I I I call147 I Tt ?_))))))))))
  intro _ _
  refine Nk (c_true I (Cs I (Lm I (Lc I (Lfa U100 I Z47 I (Lo G47 2 I (pull9 (pull9 (pull9 (pull9 (pull9 (pull9 (pull6 (pull9 (pull9 (pull9 (l_e I (e_callH [_, _, _, _] (fdue h) I I I call148 I Tt ?_))))))))))))))))))
  intro _ _
  refine Pre.world (St _ _ (_ :: _ :: _ :: _ :: HQ.H (x))) Ih ?_
  refine Ak I (c_ret (k_then_ret (k_block_ret (k_then_ret (drop0 (r_one I I ?_))))))
  exact fun _ h => ⟨(), rfl, trivial, h⟩
theorem may_e {x : HQ} {L : Lf} {B : Nat} (h : LH x L B) (bH bt : Nat) (vT vO vE : Value) (sq pk : Int) (tks : List Tk) (i : Nat) (hi : tks.length ≤ 8) (hk : tks[i]? = some .e) : Con Tryz.prog 91 [ptV bH, .int .i64 (i : Int)] (fun _ => True) (HSE bH (ptV x.bh) bt vT vO vE sq pk :: rowE vT 102 Tk.enc tks :: x.H) (fun _ : Unit => .bool false) (fun _ => True) (fun _ => HSE bH (ptV x.bh) bt vT vO vE sq pk :: rowE vT 102 Tk.enc tks :: x.H) := by
  intro w hE hH
  have hkl := (List.getElem?_eq_some_iff.1 hk).1
  refine enter (n := 63) (vs := [ptV bH, .int .i64 (i : Int)]) (St w (dom (HSE bH (ptV x.bh) bt vT vO vE sq pk :: rowE vT 102 Tk.enc tks :: x.H)) (HSE bH (ptV x.bh) bt vT vO vE sq pk :: rowE vT 102 Tk.enc tks :: x.H)) func91 I I I (St.init hH) ?_
  refine Cs I (Ak I (c_seq (Cs I (Lm I (Lc I (Lfa U100 I Z98 I (Lo G98 0 I (Lm I (Lq I (q_indexV i I U98 Z102 I (Hrd 1 I) I I (by omega)) (Lq I (q_loadV i 0 I G102 I I (Hrd 1 I) hk I) (Nk (c_block (Cs I (Lq rfl (q_assert_no rfl U103 (fun _ h => by cases h) rfl (by decide) zeroValue103) (Lq I (q_extract I I I) (Lq I (q_extract I I I) (Nk (c_false I (Cs I (Lq rfl (q_assert_no rfl U108 (fun _ h => by cases h) rfl (by decide) zeroValue108) (Lq I (q_extract I I I) (Lq I (q_extract I I I) (Nk ?_)))))))))))))))))))))))
  refine c_false I (c_skip (k_block (Kt (Cs I (Lm I (Lc I (Lfa U100 I Z47 I (Lo G47 0 I (Lc I (Lfa U91 I Z86 I (Lo G86 2 I (l_e I (e_callH [_, _] (hline h.ok) I I I call99 I Tt ?_)))))))))))))
  intro v _
  refine Pre.world (St _ _ (_ :: _ :: _ :: HQ.H (x))) Ih ?_
  refine Lq I (q_lenV I U22 I (Hrd 2 I)) (Lq I (q_gtr I I I) (Lm I (Sb 55 false I (by rw [h.m]; rfl) (Lx I (Lx I (Lx I (Lx I (Lx I (Lx I (Lq I (q_pick_f I I I) (Ak I (c_ret (pull8 (pull8 (pull8 (pull8 (pull8 (pull8 (pull7 (pull7 (pull8 (drop0 (r_one I I ?_)))))))))))))))))))))))
  exact fun _ h => ⟨(), rfl, trivial, h⟩
theorem hmay_all {h : HC} {m : HM} {B : Nat} (k : HOk h m B) {i : Nat} (hi : i < m.T.n) : Con Tryz.prog 91 [ptV h.bH, .int .i64 (i : Int)] (fun _ => True) (h.H m) (fun _ : Unit => .bool (mayI m i)) (fun _ => True) (fun _ => h.H m) := by
  obtain ⟨a, ha⟩ : ∃ a, h.tks[i]? = some a := ⟨_, List.getElem?_eq_getElem (by rw [k.tlen]; exact hi)⟩
  have h8 : h.tks.length ≤ 8 := by rw [k.tlen, k.tn]; exact k.n8
  rcases k.tk ha with ⟨c, hc, rfl⟩ | ⟨b, hb, hfb, rfl⟩ | ⟨he, rfl⟩
  · have hm : mayI m i = mayC (i : Int) m.L c.m := by unfold mayI; rw [k.at hc]
    rw [hm]
    have hp : (h.H m).Perm ((HSE h.bH (ptV h.x.bh) h.bt h.vT h.vO h.vE m.sq m.pk :: rowE h.vT 102 Tk.enc h.tks :: (c.H (i : Int) ++ h.x.H)) ++ (rowE h.vE 71 Evt.enc m.ev :: cellsE h.bt 171 (Sc.tabC m.T) :: (CLo 0 i h.cc ++ FLs h.cc.length h.fl))) := by
      have h1 := cl_out (k := 0) hc
      rw [Nat.zero_add] at h1
      refine (perm_t _ _ _ _ _).trans ?_
      exact ((((h1.append_right (FLs h.cc.length h.fl ++ h.x.H)).cons _).cons _).cons _).cons _ |>.trans (perm_c _ _ _ _ (c.H (i : Int)) (CLo 0 i h.cc) (FLs h.cc.length h.fl) h.x.H)
    obtain ⟨b, vo, bw, br, ⟨ops, nx, ph⟩⟩ := c
    have go : ∀ (v : Bool), Con Tryz.prog 91 [ptV h.bH, .int .i64 (i : Int)] (fun _ => True) (HSE h.bH (ptV h.x.bh) h.bt h.vT h.vO h.vE m.sq m.pk :: rowE h.vT 102 Tk.enc h.tks :: ((⟨b, vo, bw, br, ⟨ops, nx, ph⟩⟩ : CC).H (i : Int) ++ h.x.H)) (fun _ : Unit => .bool v) (fun _ => True) (fun _ => HSE h.bH (ptV h.x.bh) h.bt h.vT h.vO h.vE m.sq m.pk :: rowE h.vT 102 Tk.enc h.tks :: ((⟨b, vo, bw, br, ⟨ops, nx, ph⟩⟩ : CC).H (i : Int) ++ h.x.H)) → Con Tryz.prog 91 [ptV h.bH, .int .i64 (i : Int)] (fun _ => True) (h.H m) (fun _ : Unit => .bool v) (fun _ => True) (fun _ => h.H m) := fun v s =>
      Con.pack _ s hp (fun _ _ _ => trivial) id (fun _ _ => ⟨rfl, trivial, [], by rw [List.append_nil]; exact hp.symm⟩)
    refine go _ ?_
    cases ph with
    | idle => exact may_i k.lh h.bH h.bt h.vT h.vO h.vE m.sq m.pk h.tks i h8 b nx vo ops [] ha
    | rd a => exact may_r k.lh h.bH h.bt h.vT h.vO h.vE m.sq m.pk h.tks i h8 b bw nx vo ops _ ha
    | wr a => exact may_w k.lh h.bH h.bt h.vT h.vO h.vE m.sq m.pk h.tks i h8 b bw nx vo ops _ ha
    | rm a => exact may_w k.lh h.bH h.bt h.vT h.vO h.vE m.sq m.pk h.tks i h8 b bw nx vo ops _ ha
  · have hm : mayI m i = false := by unfold mayI; rw [List.getElem?_eq_none (by omega)]
    rw [hm]
    have h1 := fl_out (k := h.cc.length) hfb
    have hp : (h.H m).Perm ((HSE h.bH (ptV h.x.bh) h.bt h.vT h.vO h.vE m.sq m.pk :: rowE h.vT 102 Tk.enc h.tks :: (([FLE b ((h.cc.length + (i - m.cs.length) : Nat) : Int)] : List Ent) ++ h.x.H)) ++ (rowE h.vE 71 Evt.enc m.ev :: cellsE h.bt 171 (Sc.tabC m.T) :: (FLo h.cc.length (i - m.cs.length) h.fl ++ CLs 0 h.cc))) := by
      refine (perm_t _ _ _ _ _).trans ?_
      have h2 : (CLs 0 h.cc ++ (FLs h.cc.length h.fl ++ h.x.H)).Perm ((([FLE b ((h.cc.length + (i - m.cs.length) : Nat) : Int)] : List Ent) ++ FLo h.cc.length (i - m.cs.length) h.fl) ++ (CLs 0 h.cc ++ h.x.H)) :=
        (List.perm_append_comm_assoc _ _ _).trans (h1.append_right _)
      exact (((h2.cons _).cons _).cons _).cons _ |>.trans (perm_c _ _ _ _ _ _ _ _)
    exact Con.pack _ (may_f k.lh h.bH h.bt h.vT h.vO h.vE m.sq m.pk h.tks i h8 b _ ha) hp (fun _ _ _ => trivial) id (fun _ _ => ⟨rfl, trivial, [], by rw [List.append_nil]; exact hp.symm⟩)
  · have hm : mayI m i = false := by unfold mayI; rw [List.getElem?_eq_none (by omega)]
    rw [hm]
    have hp : (h.H m).Perm ((HSE h.bH (ptV h.x.bh) h.bt h.vT h.vO h.vE m.sq m.pk :: rowE h.vT 102 Tk.enc h.tks :: h.x.H) ++ (rowE h.vE 71 Evt.enc m.ev :: cellsE h.bt 171 (Sc.tabC m.T) :: (CLs 0 h.cc ++ FLs h.cc.length h.fl))) := perm_x _ _ _ _ _ _ _
    exact Con.pack _ (may_e k.lh h.bH h.bt h.vT h.vO h.vE m.sq m.pk h.tks i h8 ha) hp (fun _ _ _ => trivial) id (fun _ _ => ⟨rfl, trivial, [], by rw [List.append_nil]; exact hp.symm⟩)
theorem hended_all {h : HC} {m : HM} {B : Nat} (k : HOk h m B) {i : Nat} {c : CC} (hc : h.cc[i]? = some c) : Con Tryz.prog 37 [ptV c.b] (fun _ => True) (h.H m) (fun _ : Unit => .bool c.m.ended) (fun _ => True) (fun _ => h.H m) := by
  have h1 := cl_out (k := 0) hc
  rw [Nat.zero_add] at h1
  have h2 : (CLs 0 h.cc ++ (FLs h.cc.length h.fl ++ h.x.H)).Perm ((c.H (i : Int) ++ CLo 0 i h.cc) ++ (FLs h.cc.length h.fl ++ h.x.H)) := h1.append_right _
  obtain ⟨b, vo, bw, br, ⟨ops, nx, ph⟩⟩ := c
  have hp : (h.H m).Perm (([CLE b vo nx (⟨b, vo, bw, br, ⟨ops, nx, ph⟩⟩ : CC).ptrs, rowE vo 43 Opn.enc ops] : List Ent) ++ (((⟨b, vo, bw, br, ⟨ops, nx, ph⟩⟩ : CC).more (i : Int) ++ CLo 0 i h.cc) ++ (FLs h.cc.length h.fl ++ h.x.H) ++ [HSE h.bH (ptV h.x.bh) h.bt h.vT h.vO h.vE m.sq m.pk, rowE h.vE 71 Evt.enc m.ev, rowE h.vT 102 Tk.enc h.tks, cellsE h.bt 171 (Sc.tabC m.T)])) := by
    refine ((((h2.cons _).cons _).cons _).cons _).trans ?_
    have h3 := List.perm_append_comm (l₁ := [HSE h.bH (ptV h.x.bh) h.bt h.vT h.vO h.vE m.sq m.pk, rowE h.vE 71 Evt.enc m.ev, rowE h.vT 102 Tk.enc h.tks, cellsE h.bt 171 (Sc.tabC m.T)]) (l₂ := (((⟨b, vo, bw, br, ⟨ops, nx, ph⟩⟩ : CC).H (i : Int) ++ CLo 0 i h.cc) ++ (FLs h.cc.length h.fl ++ h.x.H)))
    exact h3
  have go : ∀ (v : Bool), Con Tryz.prog 37 [ptV b] (fun _ => True) ([CLE b vo nx (⟨b, vo, bw, br, ⟨ops, nx, ph⟩⟩ : CC).ptrs, rowE vo 43 Opn.enc ops] : List Ent) (fun _ : Unit => .bool v) (fun _ => True) (fun _ => [CLE b vo nx (⟨b, vo, bw, br, ⟨ops, nx, ph⟩⟩ : CC).ptrs, rowE vo 43 Opn.enc ops]) → Con Tryz.prog 37 [ptV b] (fun _ => True) (h.H m) (fun _ : Unit => .bool v) (fun _ => True) (fun _ => h.H m) := fun v s =>
    Con.pack _ s hp (fun _ _ _ => trivial) id (fun _ _ => ⟨rfl, trivial, [], by rw [List.append_nil]; exact hp.symm⟩)
  refine go _ ?_
  cases ph with
  | idle => exact ended_no b 0 nx vo ops
  | rd a => exact ended_r b bw nx vo ops
  | wr a => exact ended_w b bw nx vo ops
  | rm a => exact ended_w b bw nx vo ops
abbrev HM.setT (m : HM) (T : Sc.Tab) : HM := { m with T := T }
theorem HOk.setT {z : HC} {m : HM} {B : Nat} (k : HOk z m B) {T : Sc.Tab} (hn : T.n = m.T.n) (ho : T.Ok ((B * 10 : Nat) : Int)) : HOk z (m.setT T) B := ⟨k.lh, k.cs, k.nf, by show T.n = _; rw [hn]; exact k.tn, ho, k.n8, k.ol, k.ev, k.sq, k.pk⟩
theorem HOk.tellT {z : HC} {m : HM} {B : Nat} (k : HOk z m B) (j : Nat) : HOk z (m.setT (tellT m j m.T)) B := k.setT (tellT_n m j m.T) (tellT_ok m j k.tok)
theorem htell {z : HC} {m : HM} {B : Nat} (k : HOk z m B) : Con Tryz.prog 42 [ptV z.bH] (fun _ => True) (z.H m) (fun _ : Unit => .tuple #[]) (fun _ => True) (fun _ => z.H (m.setT (tellT m m.T.n m.T))) := by
  intro w hE hH
  have htl := k.tlen
  have h8 : m.T.n ≤ 8 := by rw [k.tn]; exact k.n8
  refine enter (n := 50) (vs := [ptV z.bH]) (St w (dom (z.H m)) (z.H m)) func42 I I I (St.init hH) ?_
  refine Cs I (Lm I (Lc I (Lfa U100 I Z98 I (Lo G98 0 I (Lq I (q_lenV I U98 I (Hrd 2 I)) (Lm I (Nk (c_block ?_))))))))
  refine c_loop1 (fun (i : Nat) => [(0, ptV z.bH), (9, z.vT), (10, .int .i64 (z.tks.length : Int)), (11, .int .i64 (i : Int))]) (fun (i : Nat) => St w (dom (z.H m)) (z.H (m.setT (tellT m i m.T)))) (fun (i : Nat) => i ≤ z.tks.length) (fun (i : Nat) => z.tks.length - i) (0) (Nat.zero_le _) (Sn I (Sn I (Sn I (Sn I (Sub.nil))))) Ih ?_
  intro i hi
  refine Cs I (Lq I (q_lss I I I) (Ns ?_))
  refine Pre.caseB 12 I (fun hlt => ?_) (fun hlt => ?_)
  · try simp only [B4] at hlt
    obtain ⟨a, ha⟩ : ∃ a, z.tks[i]? = some a := ⟨_, List.getElem?_eq_getElem (by omega)⟩
    have km := k.tellT i
    have hin : i < (m.setT (tellT m i m.T)).T.n := by rw [show (m.setT (tellT m i m.T)).T.n = m.T.n from tellT_n m i m.T]; omega
    rcases k.tk ha with ⟨c, hc, rfl⟩ | ⟨b, hb, hfb, rfl⟩ | ⟨he, rfl⟩
    · have hcm := k.at hc
      refine c_true I (c_skip (Ks (c_block (Cs I (Lm I (Lq I (q_indexV i I U98 Z102 I (Hrd 2 I) I I (by omega)) (Lq I (q_loadV i 0 I G102 I I (Hrd 2 I) ha I) (Las I (Ak I (Cs I (Lm I (Lq rfl (q_assert_yes rfl U103 (fun _ h => by cases h) rfl) (Lm I (Lq I (q_extract I I I) (Lq I (q_extract I I I) (Las I (Ak I (c_block (Cs I (Lm I (Lm I (l_e I (e_callH [] (hmay_all km hin) I I I call91 I Tt ?_)))))))))))))))))))))))
      intro _ _
      refine Pre.world (St _ _ (HC.H z (m.setT (tellT m i m.T)))) Ih ?_
      refine Ak I ?_
      refine Pre.caseB 27 I (fun hmy => ?_) (fun hmy => ?_)
      · refine c_true I (Cr I (Lm I (Lc I (Lfa U100 I Z97 I (Lo G97 0 I (Lm I (pull2 (pull2 (pull2 (pull3 (l_e I (e_call_11 (Sc.wake_spec km.tok z.bt (i : Int)) I I I call92 I Tt ?_))))))))))))
        intro _ _
        refine l_nil (k_block (k_block (Kt (Cr I (Lq I (q_inc I I I (by omega)) (Lm I (l_nil (pull3 (pull3 (pull3 ?_))))))))))
        have hst : stI m i = 0 := by unfold stI; rw [if_pos (show mayI m i = true from hmy)]
        exact k_round (i + 1) (by omega) (by omega) (Sub.cons I (Sub.cons I (Sub.cons I (Sub.cons I (Sub.nil))))) (fun _ h => by
            show St w _ (HC.H z (m.setT (Sc.turnM (tellT m i m.T) (i : Int) (stI m i)))) _
            rw [hst]; exact h)
      · refine c_false I (Cs I (Lm I (Lm I (Lm I (l_e I (e_callH [] (hended_all km hc) I I I call37 I Tt ?_))))))
        intro _ _
        refine Pre.world (St _ _ (HC.H z (m.setT (tellT m i m.T)))) Ih ?_
        refine Lq I (q_pick_t I I I) (Ak I ?_)
        refine Pre.caseB 37 I (fun hen => ?_) (fun hen => ?_)
        · refine c_true I (Cr I (Lm I (Lc I (Lfa U100 I Z97 I (Lo G97 0 I (Lm I (pull2 (pull2 (pull2 (pull3 (l_e I (e_call_11 (Sc.end_spec km.tok z.bt (i : Int)) I I I call93 I Tt ?_))))))))))))
          intro _ _
          refine l_nil (k_block (k_block (Kt (Cr I (Lq I (q_inc I I I (by omega)) (Lm I (l_nil (pull3 (pull3 (pull3 ?_))))))))))
          have hst : stI m i = 2 := by unfold stI; rw [if_neg (by rw [show mayI m i = false from hmy]; decide), hcm]; simp only; rw [if_pos hen]
          exact k_round (i + 1) (by omega) (by omega) (Sub.cons I (Sub.cons I (Sub.cons I (Sub.cons I (Sub.nil))))) (fun _ h => by
              show St w _ (HC.H z (m.setT (Sc.turnM (tellT m i m.T) (i : Int) (stI m i)))) _
              rw [hst]; exact h)
        · refine c_false I (Cr I (Lm I (Lc I (Lfa U100 I Z97 I (Lo G97 0 I (Lm I (pull2 (pull2 (pull2 (pull3 (l_e I (e_call_11 (Sc.block_spec km.tok z.bt (i : Int)) I I I call94 I Tt ?_))))))))))))
          intro _ _
          refine l_nil (k_block (k_block (Kt (Cr I (Lq I (q_inc I I I (by omega)) (Lm I (l_nil (pull3 (pull3 (pull3 ?_))))))))))
          have hst : stI m i = 1 := by unfold stI; rw [if_neg (by rw [show mayI m i = false from hmy]; decide), hcm]; simp only; rw [if_neg (by rw [hen]; decide)]
          exact k_round (i + 1) (by omega) (by omega) (Sub.cons I (Sub.cons I (Sub.cons I (Sub.cons I (Sub.nil))))) (fun _ h => by
              show St w _ (HC.H z (m.setT (Sc.turnM (tellT m i m.T) (i : Int) (stI m i)))) _
              rw [hst]; exact h)
    · have hno : m.cs[i]? = none := List.getElem?_eq_none (by omega)
      have hmy : mayI m i = false := by unfold mayI; rw [hno]
      refine c_true I (c_skip (Ks (c_block (Cs I (Lm I (Lq I (q_indexV i I U98 Z102 I (Hrd 2 I) I I (by omega)) (Lq I (q_loadV i 0 I G102 I I (Hrd 2 I) ha I) (Las I (Ak I (Cs I (Lm I (Lq rfl (q_assert_no rfl U103 (fun _ h => by cases h) rfl (by decide) zeroValue103) (Lm I (Lq I (q_extract I I I) (Lq I (q_extract I I I) (Las I (Ak I (c_block (Cs I (Lm I (Lm I (l_e I (e_callH [] (hmay_all km hin) I I I call91 I Tt ?_)))))))))))))))))))))))
      intro _ _
      refine Pre.world (St _ _ (HC.H z (m.setT (tellT m i m.T)))) Ih ?_
      refine Sv' 30 (.bool false) I (by rw [show mayI (m.setT (tellT m i m.T)) i = false from hmy]) (Ak I (c_false I (Cs I (Lm I (Lm I (Lx I (Lx I (Lq I (q_pick_f I I I) (Ak I (c_false I (Cr I (Lm I (Lc I (Lfa U100 I Z97 I (Lo G97 0 I (Lm I (pull2 (pull2 (pull2 (pull3 (l_e I (e_call_11 (Sc.block_spec km.tok z.bt (i : Int)) I I I call94 I Tt ?_))))))))))))))))))))))
      intro _ _
      refine l_nil (k_block (k_block (Kt (Cr I (Lq I (q_inc I I I (by omega)) (Lm I (l_nil (pull3 (pull3 (pull3 ?_))))))))))
      have hst : stI m i = 1 := by unfold stI; rw [if_neg (by rw [hmy]; decide), hno]
      exact k_round (i + 1) (by omega) (by omega) (Sub.cons I (Sub.cons I (Sub.cons I (Sub.cons I (Sub.nil))))) (fun _ h => by
          show St w _ (HC.H z (m.setT (Sc.turnM (tellT m i m.T) (i : Int) (stI m i)))) _
          rw [hst]; exact h)
    · have hno : m.cs[i]? = none := List.getElem?_eq_none (by omega)
      have hmy : mayI m i = false := by unfold mayI; rw [hno]
      refine c_true I (c_skip (Ks (c_block (Cs I (Lm I (Lq I (q_indexV i I U98 Z102 I (Hrd 2 I) I I (by omega)) (Lq I (q_loadV i 0 I G102 I I (Hrd 2 I) ha I) (Las I (Ak I (Cs I (Lm I (Lq rfl (q_assert_no rfl U103 (fun _ h => by cases h) rfl (by decide) zeroValue103) (Lm I (Lq I (q_extract I I I) (Lq I (q_extract I I I) (Las I (Ak I (c_block (Cs I (Lm I (Lm I (l_e I (e_callH [] (hmay_all km hin) I I I call91 I Tt ?_)))))))))))))))))))))))
      intro _ _
      refine Pre.world (St _ _ (HC.H z (m.setT (tellT m i m.T)))) Ih ?_
      refine Sv' 30 (.bool false) I (by rw [show mayI (m.setT (tellT m i m.T)) i = false from hmy]) (Ak I (c_false I (Cs I (Lm I (Lm I (Lx I (Lx I (Lq I (q_pick_f I I I) (Ak I (c_false I (Cr I (Lm I (Lc I (Lfa U100 I Z97 I (Lo G97 0 I (Lm I (pull2 (pull2 (pull2 (pull3 (l_e I (e_call_11 (Sc.block_spec km.tok z.bt (i : Int)) I I I call94 I Tt ?_))))))))))))))))))))))
      intro _ _
      refine l_nil (k_block (k_block (Kt (Cr I (Lq I (q_inc I I I (by omega)) (Lm I (l_nil (pull3 (pull3 (pull3 ?_))))))))))
      have hst : stI m i = 1 := by unfold stI; rw [if_neg (by rw [hmy]; decide), hno]
      exact k_round (i + 1) (by omega) (by omega) (Sub.cons I (Sub.cons I (Sub.cons I (Sub.cons I (Sub.nil))))) (fun _ h => by
          show St w _ (HC.H z (m.setT (Sc.turnM (tellT m i m.T) (i : Int) (stI m i)))) _
          rw [hst]; exact h)
  · try simp only [B4] at hlt
    have hie : i = m.T.n := by omega
    refine c_false I (c_exit (k_then_exit (k_then_exit (k_block_exit (r_normal (r_none I ?_))))))
    exact fun _ h => ⟨(), rfl, trivial, by rw [hie] at h; exact h⟩
def HM.client (m : HM) (t : Nat) : HM := match m.cs[t]? with
  | some c => { m with L := (stepC (t : Int) m.L c).1, cs := m.cs.set t (stepC (t : Int) m.L c).2.1, sq := seqN (stepC (t : Int) m.L c).2.2.1 m.sq, ev := m.ev ++ (stepC (t : Int) m.L c).2.2.2 }
  | none => m
def stepH (m : HM) (p : Int) : HM :=
  if Sc.runM m.T = [] then m
  else (({ m with T := Sc.pickM m.T p, pk := m.pk + 1 } : HM).client (Sc.whoM m.T p)).setT (tellT (({ m with T := Sc.pickM m.T p, pk := m.pk + 1 } : HM).client (Sc.whoM m.T p)) m.T.n (Sc.pickM m.T p))
def HM.Pre (m : HM) : Prop := ∀ t ∈ Sc.runM m.T, ∃ c, m.cs[t]? = some c ∧ preC (t : Int) m.L c ∧ (c.ph ≠ .idle → m.L.mayH (t : Int) = true)
theorem stepC_ops (t : Int) (L : Lf) (c : Cl) : (stepC t L c).2.1.ops = c.ops := by
  unfold stepC
  split <;> (try split) <;> rfl
theorem stepC_ev (t : Int) (L : Lf) (c : Cl) : (stepC t L c).2.2.2.length ≤ 1 := by
  unfold stepC
  split <;> (try split) <;> simp
theorem stepC_nx {t : Int} {L : Lf} {c : Cl} (hp : preC t L c) (hn : c.ph ≠ .idle → c.nx < c.ops.length) : (stepC t L c).2.1.nx ≤ c.ops.length ∧ ((stepC t L c).2.1.ph ≠ .idle → (stepC t L c).2.1.nx < c.ops.length) := by
  have h1 : c.nx < c.ops.length := by
    by_cases e : c.ph = .idle
    · unfold preC at hp; rw [e] at hp; exact hp.1
    · exact hn e
  unfold stepC
  split <;> (try split) <;> first | exact ⟨Nat.le_of_lt h1, fun _ => h1⟩ | exact ⟨h1, fun h => absurd rfl h⟩
theorem HOk.client {z : HC} {m : HM} {B : Nat} (k : HOk z m B) (hB : B + 1 ≤ 60000) {t : Nat} {c : CC} (hc : z.cc[t]? = some c) (hpre : preC (t : Int) m.L c.m) {v : Value} {c' : CC} {y : HQ} (h1 : c'.b = c.b) (h2 : c'.m = (stepC (t : Int) m.L c.m).2.1) (h3 : LH y (stepC (t : Int) m.L c.m).1 (B + 1)) : HOk { z with vE := v, cc := z.cc.set t c', x := y } (m.client t) (B + 1) := by
  have hcm := k.at hc
  have hm : m.client t = { m with L := (stepC (t : Int) m.L c.m).1, cs := m.cs.set t (stepC (t : Int) m.L c.m).2.1, sq := seqN (stepC (t : Int) m.L c.m).2.2.1 m.sq, ev := m.ev ++ (stepC (t : Int) m.L c.m).2.2.2 } := by unfold HM.client; rw [hcm]
  rw [hm]
  have hl := k.ol c.m (List.mem_of_getElem? hcm)
  refine ⟨h3, ?_, k.nf, ?_, k.tok.mono (by omega), ?_, ?_, ?_, ?_, Nat.le_trans k.pk (Nat.le_succ B)⟩
  · show (z.cc.set t c').map CC.m = _
    rw [List.map_set, h2, k.cs]
  · show m.T.n = (m.cs.set t _).length + (m.nf + 1)
    rw [List.length_set]; exact k.tn
  · show (m.cs.set t _).length + (m.nf + 1) ≤ 8
    rw [List.length_set]; exact k.n8
  · intro d hd
    rcases List.mem_or_eq_of_mem_set hd with e | e
    · exact k.ol d e
    · subst e
      rw [stepC_ops]
      have := stepC_nx hpre hl.2.2
      exact ⟨hl.1, this.1, this.2⟩
  · show (m.ev ++ _).length ≤ _
    rw [List.length_append]
    have := stepC_ev (t : Int) m.L c.m
    have := k.ev
    omega
  · show 1 ≤ seqN _ m.sq ∧ seqN _ m.sq ≤ ((B + 1 : Nat) : Int) + 1
    have hs := k.sq
    unfold seqN
    split
    · rw [wrap_id (by omega) (by omega)]; omega
    · omega
theorem set_b {l : List CC} {i : Nat} {c c' : CC} (h0 : l[i]? = some c) (hb : c'.b = c.b) : (l.set i c').map (fun c => Tk.c c.b) = l.map (fun c => Tk.c c.b) := by
  rw [List.map_set, hb]
  exact List.ext_getElem? (fun j => by
    rw [List.getElem?_set]
    split
    · rename_i e; subst e; split
      · rw [List.getElem?_map, h0]; rfl
      · rename_i hn; exact absurd (by simpa using (List.getElem?_eq_some_iff.1 h0).1) hn
    · rfl)
theorem hclient_all {z : HC} {m : HM} {B : Nat} (k : HOk z m B) (hB : B + 1 ≤ 60000) {t : Nat} {c : CC} (hc : z.cc[t]? = some c) (hmay : c.m.ph ≠ .idle → m.L.mayH (t : Int) = true) (hpre : preC (t : Int) m.L c.m) : Con Tryz.prog 39 [ptV z.bH, .int .i64 (t : Int), ptV c.b] (fun _ => True) (z.H m) (fun _ : HC => .tuple #[])
    (fun z' => z'.bH = z.bH ∧ z'.bt = z.bt ∧ HOk z' (m.client t) (B + 1)) (fun z' => z'.H (m.client t)) := by
  have hcm := k.at hc
  have hol := k.ol c.m (List.mem_of_getElem? hcm)
  have hlt := (List.getElem?_eq_some_iff.1 hc).1
  have ht8 : tkB (t : Int) = true := by
    have := k.n8
    have := k.len
    unfold tkB
    rw [decide_eq_true (show (0 : Int) ≤ (t : Int) by omega), decide_eq_true (show (t : Int) < 8 by omega)]; rfl
  have hm : m.client t = { m with L := (stepC (t : Int) m.L c.m).1, cs := m.cs.set t (stepC (t : Int) m.L c.m).2.1, sq := seqN (stepC (t : Int) m.L c.m).2.2.1 m.sq, ev := m.ev ++ (stepC (t : Int) m.L c.m).2.2.2 } := by unfold HM.client; rw [hcm]
  have hsq : (Lit.int .u64 m.sq).wf = true := by
    have := k.sq
    simp only [Lit.wf, Bool.and_eq_true, decide_eq_true_eq]
    exact ⟨by show (0 : Int) ≤ _; omega, by show _ ≤ (2 ^ 64 - 1 : Int); omega⟩
  have s := client_step k.lh hB ht8 z.bH z.bt z.vT z.vO z.vE m.sq m.pk m.ev (by have := k.ev; omega) hsq c hol.1 (Nat.le_trans hol.2.1 hol.1) hmay hpre
  have h1 := cl_out (k := 0) hc
  rw [Nat.zero_add] at h1
  have hp : (z.H m).Perm ((HSE z.bH (ptV z.x.bh) z.bt z.vT z.vO z.vE m.sq m.pk :: rowE z.vE 71 Evt.enc m.ev :: (c.H (t : Int) ++ z.x.H)) ++ (rowE z.vT 102 Tk.enc z.tks :: cellsE z.bt 171 (Sc.tabC m.T) :: (CLo 0 t z.cc ++ FLs z.cc.length z.fl))) := by
    exact ((((h1.append_right (FLs z.cc.length z.fl ++ z.x.H)).cons _).cons _).cons _).cons _ |>.trans (perm_c _ _ _ _ (c.H (t : Int)) (CLo 0 t z.cc) (FLs z.cc.length z.fl) z.x.H)
  refine Con.pack _ s hp (fun _ _ _ => trivial) (fun r => { z with vE := r.1, cc := z.cc.set t r.2.1, x := r.2.2 }) (fun r hr => ⟨rfl, ⟨rfl, rfl, k.client hB hc hpre hr.1 hr.2.1 hr.2.2.2⟩, [], ?_⟩)
  rw [List.append_nil, hm]
  have h2 := cl_in (k := 0) r.2.1 hlt
  rw [Nat.zero_add] at h2
  have hb : ptV r.2.2.bh = ptV z.x.bh := by rw [hr.2.2.1]
  have htk : ({ z with vE := r.1, cc := z.cc.set t r.2.1, x := r.2.2 } : HC).tks = z.tks := by
    unfold HC.tks
    show (z.cc.set t r.2.1).map _ ++ _ = _
    rw [set_b hc hr.1]
  have hl2 : (z.cc.set t r.2.1).length = z.cc.length := List.length_set ..
  have e : ({ z with vE := r.1, cc := z.cc.set t r.2.1, x := r.2.2 } : HC).H { m with L := (stepC (t : Int) m.L c.m).1, cs := m.cs.set t (stepC (t : Int) m.L c.m).2.1, sq := seqN (stepC (t : Int) m.L c.m).2.2.1 m.sq, ev := m.ev ++ (stepC (t : Int) m.L c.m).2.2.2 } = HSE z.bH (ptV z.x.bh) z.bt z.vT z.vO r.1 (seqN (stepC (t : Int) m.L c.m).2.2.1 m.sq) m.pk :: rowE r.1 71 Evt.enc (m.ev ++ (stepC (t : Int) m.L c.m).2.2.2) :: rowE z.vT 102 Tk.enc z.tks :: cellsE z.bt 171 (Sc.tabC m.T) :: (CLs 0 (z.cc.set t r.2.1) ++ (FLs z.cc.length z.fl ++ r.2.2.H)) := by
    show HSE z.bH (ptV r.2.2.bh) z.bt z.vT z.vO r.1 _ _ :: rowE r.1 71 Evt.enc _ :: rowE z.vT 102 Tk.enc ({ z with vE := r.1, cc := z.cc.set t r.2.1, x := r.2.2 } : HC).tks :: _ :: (CLs 0 (z.cc.set t r.2.1) ++ (FLs (z.cc.set t r.2.1).length z.fl ++ r.2.2.H)) = _
    rw [hb, htk, hl2]
  rw [e]
  refine List.Perm.trans ?_ (((((h2.append_right (FLs z.cc.length z.fl ++ r.2.2.H)).cons _).cons _).cons _).cons _)
  exact (perm_c _ _ _ _ (r.2.1.H (t : Int)) (CLo 0 t z.cc) (FLs z.cc.length z.fl) r.2.2.H).symm
theorem HOk.mono {z : HC} {m : HM} {B C : Nat} (k : HOk z m B) (hBC : B ≤ C) (hC : C ≤ 60000) : HOk z m C := ⟨k.lh.mono hBC hC, k.cs, k.nf, k.tn, k.tok.mono (by omega), k.n8, k.ol, Nat.le_trans k.ev hBC, ⟨k.sq.1, by have := k.sq.2; omega⟩, Nat.le_trans k.pk hBC⟩
theorem HOk.pick {z : HC} {m : HM} {B : Nat} (k : HOk z m B) (hB : B + 2 ≤ 60000) (p : Int) : HOk z { m with T := Sc.pickM m.T p, pk := m.pk + 1 } (B + 1) :=
  ⟨k.lh.mono (Nat.le_succ B) (by omega), k.cs, k.nf, by show (Sc.pickM m.T p).n = _; rw [Sc.pick_n]; exact k.tn, (Sc.pick_ok k.tok p).mono (by omega), k.n8, k.ol, Nat.le_trans k.ev (Nat.le_succ B), ⟨k.sq.1, by have h1 := k.sq.2; show m.sq ≤ ((B + 1 : Nat) : Int) + 1; omega⟩, Nat.succ_le_succ k.pk⟩
theorem HOk.get {z : HC} {m : HM} {B : Nat} (k : HOk z m B) {i : Nat} {cl : Cl} (h : m.cs[i]? = some cl) : ∃ c, z.cc[i]? = some c ∧ c.m = cl := by
  rw [← k.cs, List.getElem?_map] at h
  cases hx : z.cc[i]? with
  | none => rw [hx] at h; cases h
  | some c => rw [hx] at h; exact ⟨c, rfl, by cases h; rfl⟩
theorem client_T (m : HM) (t : Nat) : (m.client t).T = m.T := by unfold HM.client; split <;> rfl
theorem stepH_eq {m : HM} {p : Int} (hr : Sc.runM m.T ≠ []) {cl : Cl} (hcl : m.cs[Sc.whoM m.T p]? = some cl) : stepH m p = (({ m with T := Sc.pickM m.T p, pk := m.pk + 1 } : HM).client (Sc.whoM m.T p)).setT (tellT (({ m with T := Sc.pickM m.T p, pk := m.pk + 1 } : HM).client (Sc.whoM m.T p)) (({ m with T := Sc.pickM m.T p, pk := m.pk + 1 } : HM).client (Sc.whoM m.T p)).T.n (({ m with T := Sc.pickM m.T p, pk := m.pk + 1 } : HM).client (Sc.whoM m.T p)).T) := by
  unfold stepH
  rw [if_neg hr, client_T]
  show _ = HM.setT _ (tellT _ (Sc.pickM m.T p).n _)
  rw [Sc.pick_n]
theorem hstep {z : HC} {m : HM} {B : Nat} (k : HOk z m B) (hB : B + 2 ≤ 60000) (hpk : m.pk < 20000) (hP : m.Pre) (p : Int) : Con Tryz.prog 13 [ptV z.bH, .int .i64 p] (fun _ => True) (z.H m) (fun y : HC => (if Sc.runM m.T = [] then .tuple #[.int .i64 0, .bool false] else .tuple #[.int .i64 (Sc.whoM m.T p : Int), .bool true])) (fun y => y.bH = z.bH ∧ HOk y (stepH m p) (B + 2)) (fun y => y.H (stepH m p)) := by
  intro w hE hH
  have htl := k.tlen
  have h8 : m.T.n ≤ 8 := by rw [k.tn]; exact k.n8
  refine enter (n := 69) (vs := [ptV z.bH, .int .i64 p]) (St w (dom (z.H m)) (z.H m)) func13 I I I (St.init hH) ?_
  refine Cs I (Las I (Ak I (c_seq (Cs I (Lm I (Lc I (Lfa U100 I Z3 I (Lo G3 0 I (Lq I (q_geq I I I) (Nk (Sb 15 false I (decide_eq_false (by omega)) (c_false I (c_skip (Kt (Cs I (Lm I (Lc I (Lfa U100 I Z97 I (Lo G97 0 I (Lm I (pull2 (pull2 (pull2 ?_)))))))))))))))))))))))
  refine pull3 (l_e I (e_call_11 (Sc.pick_spec k.tok (by have := k.lh.ok.b9; omega) z.bt p) I I I call38 I Tt ?_))
  intro _ _
  refine Lm I (Lq I (q_extract I I I) (Lq I (q_extract I I I) (Las I (Ak I (c_seq (Cs I (Lm I (Lq I (q_not I I) (Nk (pull3 (pull3 (pull3 ?_))))))))))))
  refine Pre.caseB 26 I (fun hr => ?_) (fun hr => ?_)
  · try simp only [Bool.not_eq_true', Bool.not_eq_false', decide_eq_true_eq, decide_eq_false_iff_not, ne_eq, Decidable.not_not] at hr
    have hst : stepH m p = m := by unfold stepH; rw [if_pos (by simpa using hr)]
    have hpk : Sc.pickM m.T p = m.T := by unfold Sc.pickM; rw [if_pos (by simpa using hr)]
    refine c_true I (Cs I (Las I (Ak I (c_ret (k_then_ret (r_many (rs := [.tmp 4, .tmp 5]) I I ?_))))))
    exact fun _ h => ⟨z, by rw [if_pos (by simpa using hr)], ⟨rfl, by rw [hst]; exact k.mono (by omega) hB⟩, by rw [hst]; rw [hpk] at h; exact h⟩
  · try simp only [Bool.not_eq_true', Bool.not_eq_false', decide_eq_true_eq, decide_eq_false_iff_not, ne_eq, Decidable.not_not] at hr
    have hr2 : Sc.runM m.T ≠ [] := by simpa using hr
    obtain ⟨cl, hcl, hpre, hmay⟩ := hP (Sc.whoM m.T p) (Sc.who_mem p hr2)
    have km := k.pick hB p
    obtain ⟨c, hc, hcm⟩ := k.get hcl
    subst hcm
    have ha : z.tks[Sc.whoM m.T p]? = some (Tk.c c.b) := by unfold HC.tks; rw [List.getElem?_append_left (by simpa using (List.getElem?_eq_some_iff.1 hc).1), List.getElem?_map, hc]; rfl
    have hal := (List.getElem?_eq_some_iff.1 ha).1
    refine c_false I (c_skip (Kt (Cs I (Lm I (Lc I (Lfa U100 I Z3 I (Lo G3 0 I (Lq I (q_inc I I I (by omega)) (Lc I (Lfa U100 I Z3 I (l_e I (e_store I I Z3 I I I (Nat.le_of_ble_eq_true I) (cells_eq (show _ = [ptV z.x.bh, ptV z.bt, z.vT, z.vO, z.vE, .int .u64 m.sq, .int .i64 ((m.pk + 1 : Nat) : Int)] from I) (Ns (Cs I (Lm I (Lc I (Lfa U100 I Z98 I (Lo G98 0 I (Lm I (Lq I (q_indexV (Sc.whoM m.T p) I U98 Z102 I (Hrd 2 I) I I (by omega)) (Lq I (q_loadV (Sc.whoM m.T p) 0 I G102 I I (Hrd 2 I) ha I) (Nk ?_)))))))))))))))))))))))
    refine c_block (Cs I (Lq rfl (q_assert_yes rfl U103 (fun _ h => by cases h) rfl) (Lq I (q_extract I I I) (Lq I (q_extract I I I) (Nk (c_true I (Cs I (Ak I (Cr I (Lm I (Lm I (Lm I ?_))))))))))))
    refine Pre.world (St _ _ (HC.H z ({ m with T := Sc.pickM m.T p, pk := m.pk + 1 } : HM))) Ih ?_
    refine l_e I (e_callH [] (hclient_all (m := ({ m with T := Sc.pickM m.T p, pk := m.pk + 1 } : HM)) km (by omega) hc hmay hpre) I I I call39 I Tt ?_)
    rintro y ⟨hy1, hy2, hy3⟩
    refine Pre.world (St _ _ (HC.H y (({ m with T := Sc.pickM m.T p, pk := m.pk + 1 } : HM).client (Sc.whoM m.T p)))) Ih ?_
    refine l_nil (k_block (Kt (Cs I (Lm I (Sv' 66 (ptV y.bH) I (by rw [hy1]) (l_e I (e_callH [] (htell hy3) I I I call42 I Tt ?_)))))))
    intro _ _
    refine Pre.world (St _ _ (HC.H y ((({ m with T := Sc.pickM m.T p, pk := m.pk + 1 } : HM).client (Sc.whoM m.T p)).setT (tellT (({ m with T := Sc.pickM m.T p, pk := m.pk + 1 } : HM).client (Sc.whoM m.T p)) (({ m with T := Sc.pickM m.T p, pk := m.pk + 1 } : HM).client (Sc.whoM m.T p)).T.n (({ m with T := Sc.pickM m.T p, pk := m.pk + 1 } : HM).client (Sc.whoM m.T p)).T)))) Ih ?_
    refine Nk (Cs I (Lm I (Las I (Ak I (c_ret ?_)))))
    have hst : stepH m p = (({ m with T := Sc.pickM m.T p, pk := m.pk + 1 } : HM).client (Sc.whoM m.T p)).setT (tellT (({ m with T := Sc.pickM m.T p, pk := m.pk + 1 } : HM).client (Sc.whoM m.T p)) (({ m with T := Sc.pickM m.T p, pk := m.pk + 1 } : HM).client (Sc.whoM m.T p)).T.n (({ m with T := Sc.pickM m.T p, pk := m.pk + 1 } : HM).client (Sc.whoM m.T p)).T) := stepH_eq hr2 hcl
    refine r_many (rs := [.tmp 4, .tmp 5]) I I ?_
    exact fun _ h => ⟨y, by rw [if_neg hr2], ⟨hy1, by rw [hst]; exact hy3.tellT _⟩, by rw [hst]; exact h⟩
theorem zseq {z : HC} {m : HM} {B : Nat} (k : HOk z m B) : Con Tryz.prog 47 [ptV z.bH] (fun _ => True) (z.H m) (fun _ : Unit => .int .u64 m.sq) (fun _ => True) (fun _ => z.H m) := by
  intro w hE hH
  refine enter (n := 7) (vs := [ptV z.bH]) (St w (dom (z.H m)) (z.H m)) func47 I I I (St.init hH) ?_
  refine Cs I (Ak I (Cs I (Lm I (Lc I (Lfa U100 I Z41 I (Lo G41 0 I (Ak I (c_ret (r_one I I ?_)))))))))
  exact fun _ h => ⟨(), rfl, trivial, h⟩
theorem zhall {z : HC} {m : HM} {B : Nat} (k : HOk z m B) : Con Tryz.prog 19 [ptV z.bH] (fun _ => True) (z.H m) (fun _ : Unit => ptV z.x.bh) (fun _ => True) (fun _ => z.H m) := by
  intro w hE hH
  refine enter (n := 7) (vs := [ptV z.bH]) (St w (dom (z.H m)) (z.H m)) func19 I I I (St.init hH) ?_
  refine Cs I (Ak I (Cs I (Lm I (Lc I (Lfa U100 I Z47 I (Lo G47 0 I (Ak I (c_ret (r_one I I ?_)))))))))
  exact fun _ h => ⟨(), rfl, trivial, h⟩
theorem zwait {z : HC} {m : HM} {B : Nat} (k : HOk z m B) (t : Int) : Con Tryz.prog 44 [ptV z.bH, .int .i64 t] (fun _ => True) (z.H m) (fun n : Int => .int .i64 n) (fun _ => True) (fun _ => z.H m) := by
  intro w hE hH
  refine enter (n := 11) (vs := [ptV z.bH, .int .i64 t]) (St w (dom (z.H m)) (z.H m)) func44 I I I (St.init hH) ?_
  refine Cs I (Ak I (Cs I (Lm I (Lc I (Lfa U100 I Z97 I (Lo G97 0 I (Lm I (pull3 (l_e I (e_call_11 (Sc.wait_spec k.tok z.bt t) I I I call95 I Tt ?_))))))))))
  intro _ _
  refine Ak I (c_ret (pull3 (pull3 (pull3 (r_one I I ?_)))))
  exact fun _ h => ⟨_, rfl, trivial, h⟩
theorem zrun {z : HC} {m : HM} {B : Nat} (k : HOk z m B) : Con Tryz.prog 43 [ptV z.bH] (fun _ => True) (z.H m) (fun v : Value => v) (fun _ => True) (fun v => rowE v 3 (encI .i64) (Sc.nints (Sc.runM m.T)) :: z.H m) := by
  intro w hE hH
  refine enter (n := 8) (vs := [ptV z.bH]) (St w (dom (z.H m)) (z.H m)) func43 I I I (St.init hH) ?_
  refine Cs I (Ak I (Cs I (Lm I (Lc I (Lfa U100 I Z97 I (Lo G97 0 I (pull3 (l_e I (e_call_12 (Sc.runnable_spec k.tok z.bt) I I I call76 I Tt ?_)))))))))
  intro v _
  refine Ak I (c_ret (pull1 (pull4 (pull4 (pull4 (pull4 (r_one I I ?_)))))))
  exact fun _ h => ⟨v, rfl, trivial, h⟩
theorem clonev_spec {va : Value} (l : List Evt) (hn : l.length ≤ 65536) : Con Tryz.prog 45 [va] (fun w => RdV w va Evt.enc l) [] (fun v : Value => v) (fun _ => True) (fun v => [rowE v 71 Evt.enc l]) := by
  intro w hl hH
  obtain ⟨a, c, rfl⟩ := rd_sl hl
  refine enter (n := 8) (vs := [.slice a l.length c]) (St w [] []) func45 I I I (St.init hH) ?_
  refine Cs I (Ak I (c_seq (Cs I (Lm I (Lq I (q_eqsl I U34 I I) (Nk ?_))))))
  refine Pre.caseB 4 I (fun hn => ?_) (fun hn => ?_)
  · rw [Option.isNone_iff_eq_none] at hn
    subst hn
    have hl0 := rd_none hl
    subst hl0
    refine c_true I (Cs I (Ak I (c_ret (k_then_ret (row0 71 Evt.enc none (r_one I I ?_))))))
    exact fun _ h => ⟨_, rfl, trivial, h⟩
  · refine c_false I (c_skip (Kt (Cs I (l_e I (e_buildSliceV (sz := 22) [] I I I I I U34 Z71 I zeroValue71 I ?_)))))
    intro b
    refine rowLit Evt.enc [] I I (Lm I (l_e I (e_append I I I U34 U34 info71 I I I I I (fun _ h => hl.keep h (by simp)) (by simp only [byt71, List.length_append, List.length_cons, List.length_nil]; omega) (by simp only [List.length_append, List.length_cons, List.length_nil]; omega) ?_)))
    intro v
    refine Ak I (c_ret ?_)
    rw [List.nil_append]
    refine r_one I I ?_
    exact fun _ h => ⟨v, rfl, trivial, h⟩
theorem zevents {z : HC} {m : HM} {B : Nat} (k : HOk z m B) : Con Tryz.prog 15 [ptV z.bH] (fun _ => True) (z.H m) (fun v : Value => v) (fun _ => True) (fun v => rowE v 71 Evt.enc m.ev :: z.H m) := by
  intro w hE hH
  refine enter (n := 8) (vs := [ptV z.bH]) (St w (dom (z.H m)) (z.H m)) func15 I I I (St.init hH) ?_
  refine Cs I (Ak I (Cs I (Lm I (Lc I (Lfa U100 I Z34 I (Lo isAgg34 0 I (l_e I (e_call_01 (clonev_spec m.ev (by have := k.ev; have := k.lh.ok.b9; omega)) I I I call45 I (Hrd 1 I) ?_))))))))
  intro v _
  refine Ak I (c_ret (r_one I I ?_))
  exact fun _ h => ⟨v, rfl, trivial, h⟩
theorem zended {z : HC} {m : HM} {B : Nat} (k : HOk z m B) : Con Tryz.prog 12 [ptV z.bH] (fun _ => True) (z.H m) (fun _ : Unit => .bool (m.cs.all Cl.ended)) (fun _ => True) (fun _ => z.H m) := by
  intro w hE hH
  have htl := k.tlen
  have h8 : m.T.n ≤ 8 := by rw [k.tn]; exact k.n8
  have htn := k.tn
  refine enter (n := 28) (vs := [ptV z.bH]) (St w (dom (z.H m)) (z.H m)) func12 I I I (St.init hH) ?_
  refine Cs I (Ak I (c_seq (Cs I (Lm I (Lc I (Lfa U100 I Z98 I (Lo G98 0 I (Lq I (q_lenV I U98 I (Hrd 2 I)) (Lm I (Nk (c_block ?_)))))))))))
  refine c_loop1 (fun (i : Nat) => [(0, ptV z.bH), (10, z.vT), (11, .int .i64 (z.tks.length : Int)), (12, .int .i64 (i : Int))]) (fun (i : Nat) => St w (dom (z.H m)) (z.H m)) (fun (i : Nat) => i ≤ z.tks.length ∧ ∀ c ∈ m.cs.take i, c.ended = true) (fun (i : Nat) => z.tks.length - i) (0) ⟨Nat.zero_le _, by simp⟩ (Sn I (Sn I (Sn I (Sn I (Sub.nil))))) Ih ?_
  intro i hp
  refine c_seq ?_
  obtain ⟨hi, hen⟩ := hp
  refine Cr I (Lq I (q_lss I I I) (Ns ?_))
  refine Pre.caseB 13 I (fun hlt => ?_) (fun hlt => ?_)
  · try simp only [B4] at hlt
    obtain ⟨a, ha⟩ : ∃ a, z.tks[i]? = some a := ⟨_, List.getElem?_eq_getElem (by omega)⟩
    rcases k.tk ha with ⟨c, hc, rfl⟩ | ⟨b, hb, hfb, rfl⟩ | ⟨he, rfl⟩
    · have hcm := k.at hc
      refine c_true I (c_skip (Ks (c_block (Cs I (Lq I (q_indexV i I U98 Z102 I (Hrd 2 I) I I (by omega)) (Lq I (q_loadV i 0 I G102 I I (Hrd 2 I) ha I) (Ak I (Cs I (Lm I (Lq rfl (q_assert_yes rfl U103 (fun _ h => by cases h) rfl) (Lm I (Lq I (q_extract I I I) (Lq I (q_extract I I I) (Las I (Ak I (Cs I (Lm I (Lm I (Lm I (l_e I (e_callH [] (hended_all k hc) I I I call37 I Tt ?_)))))))))))))))))))))
      intro _ _
      refine Pre.world (St _ _ (HC.H z m)) Ih ?_
      refine Lq I (q_not I I) (Lq I (q_pick_t I I I) (Nk ?_))
      refine Pre.caseB 26 I (fun hce => ?_) (fun hce => ?_)
      · try simp only [B4] at hce
        refine c_true I (Cs I (Ak I (c_ret (k_block_ret (k_then_ret (k_then_ret (k_block_ret (k_then_ret (r_one I I ?_)))))))))
        exact fun _ h => ⟨(), congrArg (fun z => Ending.returned (Value.bool z)) (by symm; rw [List.all_eq_false]; exact ⟨c.m, List.mem_of_getElem? hcm, by rw [hce]; decide⟩), trivial, h⟩
      · try simp only [B4] at hce
        refine c_false I (c_skip (k_block (Kt (Cr I (Lq I (q_inc I I I (by omega)) (Lm I (l_nil ?_)))))))
        exact k_round (i + 1) (by omega) ⟨by omega, fun d hd => by
            rw [List.take_add_one, hcm] at hd
            rcases List.mem_append.1 hd with e | e
            · exact hen d e
            · simp at e; rw [e]; exact hce⟩ (Sub.cons rfl (Sub.cons rfl (Sub.cons rfl (Sub.cons rfl (Sub.nil))))) (fun _ h => h)
    · have hno : m.cs[i]? = none := List.getElem?_eq_none (by omega)
      refine c_true I (c_skip (Ks (c_block (Cs I (Lq I (q_indexV i I U98 Z102 I (Hrd 2 I) I I (by omega)) (Lq I (q_loadV i 0 I G102 I I (Hrd 2 I) ha I) (Ak I (Cs I (Lm I (Lq rfl (q_assert_no rfl U103 (fun _ h => by cases h) rfl (by decide) zeroValue103) (Lm I (Lq I (q_extract I I I) (Lq I (q_extract I I I) (Las I (Ak I (Cs I (Lm I (Lm I (Lx I (Lx I (Lx I (Lq I (q_pick_f I I I) (Nk ?_)))))))))))))))))))))))
      refine c_false I (c_skip (k_block (Kt (Cr I (Lq I (q_inc I I I (by omega)) (Lm I (l_nil ?_)))))))
      exact k_round (i + 1) (by omega) ⟨by omega, fun d hd => hen d (by rw [List.take_add_one, hno] at hd; simpa using hd)⟩ (Sub.cons I (Sub.cons I (Sub.cons I (Sub.cons I (Sub.nil))))) (fun _ h => h)
    · have hno : m.cs[i]? = none := List.getElem?_eq_none (by omega)
      refine c_true I (c_skip (Ks (c_block (Cs I (Lq I (q_indexV i I U98 Z102 I (Hrd 2 I) I I (by omega)) (Lq I (q_loadV i 0 I G102 I I (Hrd 2 I) ha I) (Ak I (Cs I (Lm I (Lq rfl (q_assert_no rfl U103 (fun _ h => by cases h) rfl (by decide) zeroValue103) (Lm I (Lq I (q_extract I I I) (Lq I (q_extract I I I) (Las I (Ak I (Cs I (Lm I (Lm I (Lx I (Lx I (Lx I (Lq I (q_pick_f I I I) (Nk ?_)))))))))))))))))))))))
      refine c_false I (c_skip (k_block (Kt (Cr I (Lq I (q_inc I I I (by omega)) (Lm I (l_nil ?_)))))))
      exact k_round (i + 1) (by omega) ⟨by omega, fun d hd => hen d (by rw [List.take_add_one, hno] at hd; simpa using hd)⟩ (Sub.cons I (Sub.cons I (Sub.cons I (Sub.cons I (Sub.nil))))) (fun _ h => h)
  · try simp only [B4] at hlt
    refine c_false I (c_exit (k_then_exit (k_then_exit (k_block_exit (Kt (Cs I (Ak I (c_ret (r_one I I ?_)))))))))
    exact fun _ h => ⟨(), congrArg (fun z => Ending.returned (Value.bool z)) (by symm; rw [List.all_eq_true]; intro c hc; exact hen c (by rw [List.take_of_length_le (by omega)]; exact hc)), trivial, h⟩
theorem zfair {z : HC} {m : HM} {B : Nat} (k : HOk z m B) {vp : Value} (picks : List Int) (hpl : picks.length ≤ 9223372036854775807) (i : Nat) (hi : i ≤ 1000000) : Con Tryz.prog 14 [ptV z.bH, vp, .int .i64 (i : Int)] (fun w => RdV w vp (encI .u8) picks) (z.H m) (fun n : Int => .int .i64 n) (fun _ => True) (fun _ => z.H m) := by
  intro w hE hH
  have htn : m.T.n ≤ 8 := by rw [k.tn]; exact k.n8
  have hrl : (Sc.nints (Sc.runM m.T)).length ≤ 8 := by
    have h1 : (Sc.nints (Sc.runM m.T)).length ≤ m.T.n := by
      unfold Sc.nints Sc.runM
      rw [List.length_map]
      exact Nat.le_trans (List.length_filter_le _ _) (by rw [List.length_range]; exact Nat.le_refl _)
    omega
  refine enter (n := 50) (vs := [ptV z.bH, vp, .int .i64 (i : Int)]) (fun w2 => St w (dom (z.H m)) (z.H m) w2 ∧ RdV w2 vp (encI .u8) picks) func14 I I I ⟨St.init hH, hE⟩ ?_
  refine Cs I (Ak I (c_seq (Cs I (Lm I (Lq I (q_rem_nn I I I (by omega) (by omega)) (Lq I (q_eql I I I) (Lm I ?_)))))))
  refine Pre.caseB 13 I (fun h1 => ?_) (fun h1 => ?_)
  · try simp only [B4] at h1
    refine Lm I (Lq I (q_lenV I U23 I (fun _ h => h.2)) (Lq I (q_gtr I I I) (Lq I (q_pick_t I I I) (Nk ?_))))
    refine Pre.caseB 17 I (fun h2 => ?_) (fun h2 => ?_)
    · try simp only [B4] at h2
      have hj : i / 2 % picks.length < picks.length := Nat.mod_lt _ (by omega)
      refine c_true I (Cs I (Lm I (Lm I (Lq I (q_quo_nn I I I (by omega) (by omega) (by omega)) (Lm I (Lq I (q_lenV I U23 I (fun _ h => h.2)) (Lq I (q_rem_nn I I I (by omega) (by omega)) (Lq I (q_indexV (i / 2 % picks.length) I U23 Z5 I (fun _ h => h.2) I (by simp) hj) ?_))))))))
      refine l_q I (q_loadV (i / 2 % picks.length) 0 I G5 I I (fun _ h => h.2) (List.getElem?_eq_getElem hj) I) I I ?_
      refine Lq I (q_conv I U5 U3 I) (Ak I (c_ret (k_then_ret (r_one I I ?_))))
      exact fun _ h => ⟨_, rfl, trivial, h.1⟩
    · try simp only [B4] at h2
      refine c_false I (c_skip (Ks ?_))
      refine Pre.world (St w (dom (z.H m)) (z.H m)) (fun _ h => h.1) ?_
      refine Cr I (Lm I (l_e I (e_callH [] (zrun k) I I I call43 I Tt ?_)))
      intro v _
      refine Pre.world (St _ _ (_ :: HC.H z m)) Ih ?_
      refine Ak I (Cs I (Ak I (c_seq (Cs I (Ak I (c_block ?_))))))
      refine c_loop2 (fun (j : Nat) (a : Nat) => [(0, ptV z.bH), (7, v), (8, .int .i64 (a : Int)), (9, .int .i64 (j : Int))]) (fun (j : Nat) (a : Nat) => St w (dom (z.H m)) (rowE v 3 (encI .i64) (Sc.nints (Sc.runM m.T)) :: z.H m)) (fun (j : Nat) (a : Nat) => a ≤ j) (fun (j : Nat) (a : Nat) => (Sc.nints (Sc.runM m.T)).length - j) (0) (0) (Nat.le_refl _) (Sn I (Sn I (Sn I (Sn I (Sub.nil))))) Ih ?_
      intro j a haj
      refine c_seq (Cs I (Lm I (Lm I (Lq I (q_lenV I U22 I (Hrd 0 I)) (Lq I (q_lss I I I) (Nk ?_))))))
      refine Pre.caseB 32 I (fun hlt => ?_) (fun hlt => ?_)
      · try simp only [B4] at hlt
        have hjl : j < (Sc.nints (Sc.runM m.T)).length := by omega
        have hal : a < (Sc.nints (Sc.runM m.T)).length := by omega
        refine c_true I (c_skip (Ks (c_block (c_seq (D8 [(0,O),(1,O),(2,O),(3,O),(4,O),(6,O),(7,O),(8,O),(9,O),(10,O),(5,V),(11,W),(12,W)] [11, 12] [(_,O),(_,O),(_,O),(_,O),(_,O),(_,O),(_,O),(_,O),(_,O),(_,O),(_,V),(_,W),(_,W)] (fun w2 => RdV w2 v (encI .i64) (Sc.nints (Sc.runM m.T))) I I I I St.drawn (Hrd 0 I) (Dm I (Dm I (Dm I (Dq I (q_indexV j I U22 Z3 I Ih I I (by omega)) ?_)))))))))
        refine d_q I (q_loadV j 0 I G3 I I (fun _ h => h) (List.getElem?_eq_getElem hjl) I) I I ?_
        refine Dm I (Dm I (Dm I (Dq I (q_indexV a I U22 Z3 I Ih I I (by omega)) ?_)))
        refine d_q I (q_loadV a 0 I G3 I I (fun _ h => h) (List.getElem?_eq_getElem hal) I) I I ?_
        refine d_e I (e_callH [_] (zwait k _) I I I call44 I Tt ?_)
        intro n0 _
        refine Pre.world (St _ _ (_ :: HC.H z m)) Ih ?_
        refine d_held (Hrd 0 I) (d_t I (e_callH [_] (zwait k _) I I I call44 I Tt ?_))
        intro n1 _
        refine Pre.world (St _ _ (_ :: HC.H z m)) Ih ?_
        refine d_t I (e_q I I (q_gtr I I I) (d_nil (Kt ?_)))
        refine Pre.caseB 47 I (fun hg => ?_) (fun hg => ?_)
        · try simp only [B4] at hg
          refine c_true I (Cr I (Lm I (Las I (l_nil (k_block (Kt (Cr I (Lm I (Lq I (q_inc I I I (by omega)) (Las I (l_nil ?_)))))))))))
          exact k_round ((j + 1, j)) (by dsimp only; omega) (by dsimp only; omega) (Sub.cons I (Sub.cons I (Sub.cons I (Sub.cons I (Sub.nil))))) (fun _ h => h)
        · try simp only [B4] at hg
          refine c_false I (c_skip (k_block (Kt (Cr I (Lm I (Lq I (q_inc I I I (by omega)) (Las I (l_nil ?_))))))))
          exact k_round ((j + 1, a)) (by dsimp only; omega) (by dsimp only; omega) (Sub.cons I (Sub.cons I (Sub.cons I (Sub.cons I (Sub.nil))))) (fun _ h => h)
      · try simp only [B4] at hlt
        refine c_false I (c_exit (k_then_exit (k_then_exit (k_block_exit (Kt (Cs I (Lm I (Ak I (c_ret (drop0 (r_one I I ?_)))))))))))
        exact fun _ h => ⟨_, rfl, trivial, h⟩
  · try simp only [B4] at h1
    refine Pre.world (St w (dom (z.H m)) (z.H m)) (fun _ h => h.1) ?_
    refine Lx I (Lx I (Lx I (Lq I (q_pick_f I I I) (Nk (c_false I (c_skip (Kt (Cs I (Lm I (l_e I (e_callH [] (zrun k) I I I call43 I Tt ?_)))))))))))
    intro v _
    refine Pre.world (St _ _ (_ :: HC.H z m)) Ih ?_
    refine Ak I (Cs I (Ak I (c_seq (Cs I (Ak I (c_block ?_))))))
    refine c_loop2 (fun (j : Nat) (a : Nat) => [(0, ptV z.bH), (7, v), (8, .int .i64 (a : Int)), (9, .int .i64 (j : Int))]) (fun (j : Nat) (a : Nat) => St w (dom (z.H m)) (rowE v 3 (encI .i64) (Sc.nints (Sc.runM m.T)) :: z.H m)) (fun (j : Nat) (a : Nat) => a ≤ j) (fun (j : Nat) (a : Nat) => (Sc.nints (Sc.runM m.T)).length - j) (0) (0) (Nat.le_refl _) (Sn I (Sn I (Sn I (Sn I (Sub.nil))))) Ih ?_
    intro j a haj
    refine c_seq (Cs I (Lm I (Lm I (Lq I (q_lenV I U22 I (Hrd 0 I)) (Lq I (q_lss I I I) (Nk ?_))))))
    refine Pre.caseB 32 I (fun hlt => ?_) (fun hlt => ?_)
    · try simp only [B4] at hlt
      have hjl : j < (Sc.nints (Sc.runM m.T)).length := by omega
      have hal : a < (Sc.nints (Sc.runM m.T)).length := by omega
      refine c_true I (c_skip (Ks (c_block (c_seq (D8 [(0,O),(1,O),(2,O),(3,O),(4,O),(6,O),(7,O),(8,O),(9,O),(10,O),(5,V),(11,W),(12,W)] [11, 12] [(_,O),(_,O),(_,O),(_,O),(_,O),(_,O),(_,O),(_,O),(_,O),(_,O),(_,V),(_,W),(_,W)] (fun w2 => RdV w2 v (encI .i64) (Sc.nints (Sc.runM m.T))) I I I I St.drawn (Hrd 0 I) (Dm I (Dm I (Dm I (Dq I (q_indexV j I U22 Z3 I Ih I I (by omega)) ?_)))))))))
      refine d_q I (q_loadV j 0 I G3 I I (fun _ h => h) (List.getElem?_eq_getElem hjl) I) I I ?_
      refine Dm I (Dm I (Dm I (Dq I (q_indexV a I U22 Z3 I Ih I I (by omega)) ?_)))
      refine d_q I (q_loadV a 0 I G3 I I (fun _ h => h) (List.getElem?_eq_getElem hal) I) I I ?_
      refine d_e I (e_callH [_] (zwait k _) I I I call44 I Tt ?_)
      intro n0 _
      refine Pre.world (St _ _ (_ :: HC.H z m)) Ih ?_
      refine d_held (Hrd 0 I) (d_t I (e_callH [_] (zwait k _) I I I call44 I Tt ?_))
      intro n1 _
      refine Pre.world (St _ _ (_ :: HC.H z m)) Ih ?_
      refine d_t I (e_q I I (q_gtr I I I) (d_nil (Kt ?_)))
      refine Pre.caseB 47 I (fun hg => ?_) (fun hg => ?_)
      · try simp only [B4] at hg
        refine c_true I (Cr I (Lm I (Las I (l_nil (k_block (Kt (Cr I (Lm I (Lq I (q_inc I I I (by omega)) (Las I (l_nil ?_)))))))))))
        exact k_round ((j + 1, j)) (by dsimp only; omega) (by dsimp only; omega) (Sub.cons I (Sub.cons I (Sub.cons I (Sub.cons I (Sub.nil))))) (fun _ h => h)
      · try simp only [B4] at hg
        refine c_false I (c_skip (k_block (Kt (Cr I (Lm I (Lq I (q_inc I I I (by omega)) (Las I (l_nil ?_))))))))
        exact k_round ((j + 1, a)) (by dsimp only; omega) (by dsimp only; omega) (Sub.cons I (Sub.cons I (Sub.cons I (Sub.cons I (Sub.nil))))) (fun _ h => h)
    · try simp only [B4] at hlt
      refine c_false I (c_exit (k_then_exit (k_then_exit (k_block_exit (Kt (Cs I (Lm I (Ak I (c_ret (drop0 (r_one I I ?_)))))))))))
      exact fun _ h => ⟨_, rfl, trivial, h⟩
def encSv : Enc Sv := ⟨1, fun s => [s.v], fun _ => rfl, fun a u h => by simp at h; subst h; rfl, by decide⟩
structure RRo (w : World) (v : Value) (vs : List Sv) (ls : List (List Opn)) : Prop where
  o : RdV w v encSv vs
  len : vs.length = ls.length
  i : ∀ (i : Nat) (s : Sv) (l : List Opn), vs[i]? = some s → ls[i]? = some l → RdV w s.v Opn.enc l
theorem RRo.keep {w0 w : World} {v : Value} {vs : List Sv} {ls : List (List Opn)} {H : List Ent} (h : RRo w0 v vs ls) (s : St w0 [] H w) : RRo w v vs ls := ⟨h.o.keep s (by simp), h.len, fun i a l h1 h2 => (h.i i a l h1 h2).keep s (by simp)⟩
def RWs : List Sv → List (List Opn) → List Ent
  | s :: vs, l :: ls => rowE s.v 43 Opn.enc l :: RWs vs ls
  | _, _ => []
theorem RWs_snoc : ∀ (vs : List Sv) (ls : List (List Opn)) (s : Sv) (l : List Opn), vs.length = ls.length → RWs (vs ++ [s]) (ls ++ [l]) = RWs vs ls ++ [rowE s.v 43 Opn.enc l]
  | [], [], _, _, _ => rfl
  | [], _ :: _, _, _, h => by simp at h
  | _ :: _, [], _, _, h => by simp at h
  | a :: vs, b :: ls, s, l, h => by
    show rowE a.v 43 Opn.enc b :: RWs (vs ++ [s]) (ls ++ [l]) = _
    rw [RWs_snoc vs ls s l (by simpa using h)]; rfl
theorem RWs_drop : ∀ (vs : List Sv) (ls : List (List Opn)) (i : Nat) (s : Sv) (l : List Opn), vs[i]? = some s → ls[i]? = some l → RWs (vs.drop i) (ls.drop i) = rowE s.v 43 Opn.enc l :: RWs (vs.drop (i + 1)) (ls.drop (i + 1)) := fun vs ls i s l h1 h2 => by
  obtain ⟨a, rfl⟩ := List.getElem?_eq_some_iff.1 h1
  obtain ⟨b, rfl⟩ := List.getElem?_eq_some_iff.1 h2
  rw [List.drop_eq_getElem_cons a, List.drop_eq_getElem_cons b]; rfl
theorem CLs_snoc : ∀ (k : Nat) (cc : List CC) (c : CC), CLs k (cc ++ [c]) = CLs k cc ++ c.H ((k + cc.length : Nat) : Int)
  | k, [], c => by show c.H _ ++ [] = _; rw [List.append_nil]; rfl
  | k, a :: cc, c => by
    show a.H _ ++ CLs (k + 1) (cc ++ [c]) = _
    rw [CLs_snoc (k + 1) cc c, List.length_cons, show k + 1 + cc.length = k + (cc.length + 1) by omega, ← List.append_assoc]; rfl
theorem FLs_snoc : ∀ (k : Nat) (fl : List Nat) (b : Nat), FLs k (fl ++ [b]) = FLs k fl ++ [FLE b ((k + fl.length : Nat) : Int)]
  | k, [], b => rfl
  | k, a :: fl, b => by
    show FLE a _ :: FLs (k + 1) (fl ++ [b]) = _
    rw [FLs_snoc (k + 1) fl b, List.length_cons, show k + 1 + fl.length = k + (fl.length + 1) by omega]; rfl
def cc0 (b : Nat) (s : Sv) (l : List Opn) : CC := ⟨b, s.v, 0, 0, ⟨l, 0, .idle⟩⟩
theorem newc_perm (p : List Ent) (cc : List CC) (b : Nat) (s : Sv) (l : List Opn) (R : List Ent) : (p ++ (CLE b s.v 0 [.pointer none, .pointer none] :: (CLs 0 cc ++ (rowE s.v 43 Opn.enc l :: R)))).Perm (p ++ (CLs 0 (cc ++ [cc0 b s l]) ++ R)) := by
  rw [CLs_snoc]
  refine List.Perm.append_left p ?_
  rw [List.append_assoc]
  exact (List.perm_append_comm_assoc [CLE b s.v 0 [.pointer none, .pointer none]] (CLs 0 cc) (rowE s.v 43 Opn.enc l :: R))
theorem newf_perm (p : List Ent) (C : List Ent) (k : Nat) (fl : List Nat) (b : Nat) (R : List Ent) : (p ++ (FLE b ((k + fl.length : Nat) : Int) :: (C ++ (FLs k fl ++ R)))).Perm (p ++ (C ++ (FLs k (fl ++ [b]) ++ R))) := by
  rw [FLs_snoc]
  refine List.Perm.append_left p ?_
  refine (List.perm_append_comm_assoc [FLE b ((k + fl.length : Nat) : Int)] C (FLs k fl ++ R)).trans (List.Perm.append_left C ?_)
  rw [List.append_assoc]
  exact List.perm_append_comm_assoc [_] (FLs k fl) R
theorem take_snoc {α : Type} {l : List α} {i : Nat} {a : α} (h : l[i]? = some a) : l.take (i + 1) = l.take i ++ [a] := by rw [List.take_add_one, h]; rfl
theorem cloneo_spec {va : Value} (l : List Opn) (hn : l.length ≤ 65536) : Con Tryz.prog 104 [va] (fun w => RdV w va Opn.enc l) [] (fun v : Value => v) (fun _ => True) (fun v => [rowE v 43 Opn.enc l]) := by
  intro w hl hH
  obtain ⟨a, c, rfl⟩ := rd_sl hl
  refine enter (n := 8) (vs := [.slice a l.length c]) (St w [] []) func104 I I I (St.init hH) ?_
  refine Cs I (Ak I (c_seq (Cs I (Lm I (Lq I (q_eqsl I U40 I I) (Nk ?_))))))
  refine Pre.caseB 4 I (fun hn => ?_) (fun hn => ?_)
  · rw [Option.isNone_iff_eq_none] at hn
    subst hn
    have hl0 := rd_none hl
    subst hl0
    refine c_true I (Cs I (Ak I (c_ret (k_then_ret (row0 43 Opn.enc none (r_one I I ?_))))))
    exact fun _ h => ⟨_, rfl, trivial, h⟩
  · refine c_false I (c_skip (Kt (Cs I (l_e I (e_buildSliceV (sz := 4) [] I I I I I U40 Z43 I zeroValue43 I ?_)))))
    intro b
    refine rowLit Opn.enc [] I I (Lm I (l_e I (e_append I I I U40 U40 info43 I I I I I (fun _ h => hl.keep h (by simp)) (by simp only [byt43, List.length_append, List.length_cons, List.length_nil]; omega) (by simp only [List.length_append, List.length_cons, List.length_nil]; omega) ?_)))
    intro v
    refine Ak I (c_ret ?_)
    rw [List.nil_append]
    refine r_one I I ?_
    exact fun _ h => ⟨v, rfl, trivial, h⟩
theorem hcopied {vo : Value} {vs : List Sv} {ls : List (List Opn)} (hn : vs.length ≤ 8) (hol : ∀ l ∈ ls, l.length ≤ 1000) : Con Tryz.prog 51 [vo] (fun w => RRo w vo vs ls) [] (fun r : Value × List Sv => r.1) (fun r => r.2.length = ls.length) (fun r => rowE r.1 40 encSv r.2 :: RWs r.2 ls) := by
  intro w hE hH
  have hlen := hE.len
  refine enter (n := 19) (vs := [vo]) (St w [] []) func51 I I I (St.init hH) ?_
  refine Cs I (Ak I (Cs I (Ak I (c_seq (Cs I (Lm I (Lq I (q_lenV I U25 I (fun _ h => hE.o.keep h (by simp [dom]))) (Lm I (Nk (c_block (row0 40 encSv none ?_)))))))))))
  refine c_loop3 (fun (i : Nat) (vr : Value) (us : List Sv) => [(0, vo), (3, vr), (6, vo), (7, .int .i64 (vs.length : Int)), (8, .int .i64 (i : Int))]) (fun (i : Nat) (vr : Value) (us : List Sv) => St w [] (rowE vr 40 encSv us :: RWs us (ls.take i))) (fun (i : Nat) (vr : Value) (us : List Sv) => i ≤ vs.length ∧ us.length = i) (fun (i : Nat) (vr : Value) (us : List Sv) => vs.length - i) (0) (nil0) ([]) ⟨Nat.zero_le _, rfl⟩ (Sn I (Sn I (Sn I (Sn I (Sn I (Sub.nil)))))) Ih ?_
  intro i vr us hp
  refine c_seq ?_
  obtain ⟨hi, hul⟩ := hp
  refine Cr I (Lq I (q_lss I I I) (Ns ?_))
  refine Pre.caseB 9 I (fun hlt => ?_) (fun hlt => ?_)
  · try simp only [B4] at hlt
    obtain ⟨s, hs⟩ : ∃ s, vs[i]? = some s := ⟨_, List.getElem?_eq_getElem (by omega)⟩
    obtain ⟨l, hl⟩ : ∃ l, ls[i]? = some l := ⟨_, List.getElem?_eq_getElem (by omega)⟩
    have hll := hol l (List.mem_of_getElem? hl)
    have hts := take_snoc hl
    refine c_true I (c_skip (Ks (c_block (Cs I (Lq I (q_indexV i I U25 Z40 I (fun _ h => hE.o.keep h (by simp [dom])) I I (by omega)) (Lq I (q_loadV i 0 I G40 I I (fun _ h => hE.o.keep h (by simp [dom])) hs I) (Ak I (Cr I (Lm I (Lm I (l_e I (e_call_01 (cloneo_spec l (by omega)) I I I call104 I (fun _ h => (hE.i i s l hs hl).keep h (by simp)) ?_))))))))))))
    intro v2 _
    refine Pre.fact (fun _ h => rd_sv (h.rd 0 I)) ?_
    rintro ⟨s2, rfl⟩
    refine l_e I (e_buildSliceV (sz := 1) [.tmp 14] I I I I I U25 Z40 I zeroValue40 I ?_)
    intro b1
    refine pull2 (l_e I (e_append I I I U25 U25 info40 I I I I I (fun _ h => lit_rd (h.at 1 I) encSv [s2] I I) (by simp only [byt40, List.length_append, List.length_cons, List.length_nil]; omega) (by simp only [List.length_append, List.length_cons, List.length_nil]; omega) ?_))
    intro v3
    refine pull1 (drop0 (Las I (l_nil (k_block (Kt (Cr I (Lq I (q_inc I I I (by omega)) (Lm I (l_nil (pull1 (pull1 ?_)))))))))))
    exact k_round ((i + 1, v3, us ++ [s2])) (by dsimp only; omega) ⟨by dsimp only; omega, by simp [hul]⟩ (Sub.cons I (Sub.cons I (Sub.cons I (Sub.cons I (Sub.cons I (Sub.nil)))))) (fun _ h => by
        dsimp only
        rw [hts, RWs_snoc us (ls.take i) s2 l (by rw [List.length_take]; omega)]
        exact h.perm (List.Perm.cons _ (List.perm_append_comm (l₁ := [_]))))
  · try simp only [B4] at hlt
    refine c_false I (c_exit (k_then_exit (k_then_exit (k_block_exit (Kt (Cs I (Lm I (Ak I (c_ret (r_one I I ?_))))))))))
    exact fun _ h => ⟨(vr, us), rfl, by dsimp only; omega, by rw [List.take_of_length_le (by omega)] at h; exact h⟩
theorem hcheck {vo : Value} {vs : List Sv} {ls : List (List Opn)} {nb nf fl : Nat} (hb1 : 1 ≤ nb) (hb2 : nb ≤ 256) (hf3 : fl ≤ 3) (hn1 : 1 ≤ ls.length) (hn4 : ls.length ≤ 4) (hfr : 4 * (ls.length + fl) < nf) (hf64 : nf ≤ 64) (hol : ∀ l ∈ ls, l.length ≤ 24) (hkd : ∀ l ∈ ls, ∀ o ∈ l, 1 ≤ o.kind ∧ o.kind ≤ 4) : Con Tryz.prog 49 [.agg #[.int .i64 (nb : Int), .int .i64 (nf : Int), .int .i64 (fl : Int), vo]] (fun w => RRo w vo vs ls) [] (fun _ : Unit => .int .i64 0) (fun _ => True) (fun _ => []) := by
  intro w hE hH
  have hlen := hE.len
  refine enter (n := 88) (vs := [.agg #[.int .i64 (nb : Int), .int .i64 (nf : Int), .int .i64 (fl : Int), vo]]) (St w [] []) func49 I I I (St.init hH) ?_
  refine Cs I (l_e I (e_box I I I I ?_))
  intro bc
  refine cells_eq (show _ = [.int .i64 (nb : Int), .int .i64 (nf : Int), .int .i64 (fl : Int), vo] from I) (Ak I (Cs I (Lfa U27 I Z25 I (Lo G25 0 I (Lq I (q_lenV I U25 I (fun _ h => hE.o.keep h (by simp [dom]))) (Ak I (Cs I (Lfa U27 I Z3 I (Lo G3 0 I (Lq I (q_geq I I I) (Lm I (Sb 15 true I (by first | rfl | (simp only [decide_eq_true_eq, decide_eq_false_iff_not]; omega) | (simp; omega)) (Lfa U27 I Z3 I (Lo G3 0 I (Lq I (q_leq I I I) (Lq I (q_pick_t I I I) (Lm I (Sb 20 true I (by first | rfl | (simp only [decide_eq_true_eq, decide_eq_false_iff_not]; omega) | (simp; omega)) (Lfa U27 I Z3 I (Lo G3 0 I (Lq I (q_geq I I I) (Lq I (q_pick_t I I I) (Lm I ?_)))))))))))))))))))))))
  refine Sb 25 true I (by first | rfl | (simp only [decide_eq_true_eq, decide_eq_false_iff_not]; omega) | (simp; omega)) (Lfa U27 I Z3 I (Lo G3 0 I (Lq I (q_leq I I I) (Lq I (q_pick_t I I I) (Lm I (Sb 30 true I (by first | rfl | (simp only [decide_eq_true_eq, decide_eq_false_iff_not]; omega) | (simp; omega)) (Lm I (Lq I (q_geq I I I) (Lq I (q_pick_t I I I) (Lm I (Sb 34 true I (by first | rfl | (simp only [decide_eq_true_eq, decide_eq_false_iff_not]; omega) | (simp; omega)) (Lm I (Lq I (q_leq I I I) (Lq I (q_pick_t I I I) (Ak I (c_seq (Cs I (Lm I (Lq I (q_not I I) (Lm I (Sb 40 false I (by first | rfl | (simp only [decide_eq_true_eq, decide_eq_false_iff_not]; omega) | (simp; omega)) (Lfa U27 I Z3 I (Lo G3 0 I ?_)))))))))))))))))))))))
  refine Lm I (Lfa U27 I Z3 I (Lo G3 0 I (Lq I (q_add64 I I I (by omega)) (Lq I (q_mul64 I I I (by omega)) (Lq I (q_leq I I I) (Lq I (q_pick_f I I I) (Lm I (Sb 50 false I (by first | rfl | (simp only [decide_eq_true_eq, decide_eq_false_iff_not]; omega) | (simp; omega)) (Lfa U27 I Z3 I (Lo G3 0 I (Lq I (q_gtr I I I) (Lq I (q_pick_f I I I) (Nk (Sb 54 false I (by first | rfl | (simp only [decide_eq_true_eq, decide_eq_false_iff_not]; omega) | (simp; omega)) (c_false I (c_skip (Ks (Cs I (Lfa U27 I Z25 I (Lo G25 0 I (Lq I (q_lenV I U25 I (fun _ h => hE.o.keep h (by simp [dom]))) (Lm I (Nk ?_)))))))))))))))))))))))
  refine c_block (Sv' 4 (.bool true) I (congrArg Value.bool (decide_eq_true (by omega))) ?_)
  refine c_loop1 (fun (i : Nat) => [(4, .bool true), (56, vo), (57, .int .i64 (vs.length : Int)), (58, .int .i64 (i : Int))]) (fun (i : Nat) => St w [] []) (fun (i : Nat) => i ≤ vs.length) (fun (i : Nat) => vs.length - i) (0) (Nat.zero_le _) (Sn I (Sn I (Sn I (Sn I (Sub.nil))))) (fun _ h => h.nothing) ?_
  intro i hi
  refine Cs I (Lq I (q_lss I I I) (Ns ?_))
  refine Pre.caseB 59 I (fun hlt => ?_) (fun hlt => ?_)
  · try simp only [B4] at hlt
    obtain ⟨s, hs⟩ : ∃ s, vs[i]? = some s := ⟨_, List.getElem?_eq_getElem (by omega)⟩
    obtain ⟨l, hl⟩ : ∃ l, ls[i]? = some l := ⟨_, List.getElem?_eq_getElem (by omega)⟩
    have hll := hol l (List.mem_of_getElem? hl)
    have hlk := hkd l (List.mem_of_getElem? hl)
    have hrl := hE.i i s l hs hl
    refine c_true I (c_skip (Ks (c_block (Cs I (Lq I (q_indexV i I U25 Z40 I (fun _ h => hE.o.keep h (by simp [dom])) I I (by omega)) (Lq I (q_loadV i 0 I G40 I I (fun _ h => hE.o.keep h (by simp [dom])) hs I) (Ak I (c_seq (Cs I (Lm I (Lq I (q_lenV I U40 I (fun _ h => hrl.keep h (by simp [dom]))) (Lm I (Nk (c_block ?_))))))))))))))
    refine c_loop1 (fun (j : Nat) => [(4, .bool true), (6, s.v), (56, vo), (57, .int .i64 (vs.length : Int)), (58, .int .i64 (i : Int)), (62, s.v), (63, .int .i64 (l.length : Int)), (64, .int .i64 (j : Int))]) (fun (j : Nat) => St w [] []) (fun (j : Nat) => j ≤ l.length) (fun (j : Nat) => l.length - j) (0) (Nat.zero_le _) (Sn I (Sn I (Sn I (Sn I (Sn I (Sn I (Sn I (Sn I (Sub.nil))))))))) Ih ?_
    intro j hj
    refine Cs I (Lq I (q_lss I I I) (Ns ?_))
    refine Pre.caseB 65 I (fun hjl => ?_) (fun hjl => ?_)
    · try simp only [B4] at hjl
      obtain ⟨o, ho⟩ : ∃ o, l[j]? = some o := ⟨_, List.getElem?_eq_getElem (by omega)⟩
      have hok := hlk o (List.mem_of_getElem? ho)
      refine c_true I (c_skip (Ks (c_block (Cs I (Lq I (q_indexV j I U40 Z43 I (fun _ h => hrl.keep h (by simp [dom])) I I (by omega)) (Lq I (q_loadVAgg j I G43 Z43 I I (fun _ h => hrl.keep h (by simp [dom])) ho) (l_e I (e_alloc I I I zeroValue43 ?_))))))))
      intro bo
      refine cells_eq (show _ = [.int .i64 0, .string ⟨#[]⟩, .string ⟨#[]⟩, .int .u64 0] from I) (l_e I (e_storeAgg I I Z43 I I I (Opn.one o) (by show 0 + 4 ≤ 4; decide) (cells_eq (show _ = Opn.c o from Sep.splice_all I) (Nk (Cr I (Lm I (Lm I (Lfa U43 I Z3 I (Lo G3 0 I (Lq I (q_geq I I I) (Lq I (q_pick_t I I I) (Lm I (Sb 74 true I (by first | rfl | (simp only [decide_eq_true_eq]; omega) | exact decide_eq_true (by omega)) (Lfa U43 I Z3 I (Lo G3 0 I (Lq I (q_leq I I I) (Lq I (q_pick_t I I I) (Las I (l_nil (k_block (Kt (Cr I (Lq I (q_inc I I I (by omega)) ?_)))))))))))))))))))))))
      refine Lm I (l_nil (Sv' 4 (.bool true) I (congrArg Value.bool (decide_eq_true (by omega))) ?_))
      exact k_round (j + 1) (by omega) (by omega) (Sub.cons I (Sub.cons I (Sub.cons I (Sub.cons I (Sub.cons I (Sub.cons I (Sub.cons I (Sub.cons I (Sub.nil))))))))) (fun _ h => h.nothing)
    · try simp only [B4] at hjl
      refine c_false I (c_exit (k_then_exit (k_then_exit (k_block_exit (Kt (Cs I (Lm I (Lq I (q_not I I) (Lm I (Lm I (Lq I (q_lenV I U40 I (fun _ h => hrl.keep h (by simp [dom]))) (Lq I (q_gtr I I I) (Lq I (q_pick_f I I I) (Nk (Sb 86 false I (by first | rfl | (simp only [decide_eq_false_iff_not]; omega) | (simp; omega)) (c_false I (c_skip (k_block (Kt (Cr I (Lq I (q_inc I I I (by omega)) (Lm I (l_nil ?_)))))))))))))))))))))))
      exact k_round (i + 1) (by omega) (by omega) (Sub.cons I (Sub.cons I (Sub.cons I (Sub.cons I (Sub.nil))))) (fun _ h => h)
  · try simp only [B4] at hlt
    refine c_false I (c_exit (k_then_exit (k_then_exit (k_block_exit (Kt (Cs I (Ak I (c_ret (r_one I I ?_)))))))))
    exact fun _ h => ⟨(), rfl, trivial, h⟩
section
variable {P : Program} {n : Nat} {L : Env} {o : Oper} {Q : Exit → Act → World → Prop} {K : Act → World → Prop} {w0 : World} {D : List Nat}
theorem e_callN {β : Type} {v : β → Value} {p : β → Prop} {E : World → Prop} {F : List Ent} {HB : β → List Ent} {f : FuncId} {xs : List Operand} {ts : Array TypeId} {d : Nat} {vs : List Value} (s : Con P f vs E [] v p HB) (ho : o.op = .call ⟨.value (.func f), xs.toArray, ts⟩) (hd : o.dst = some d) (hn : d.blt n = true)
    (hc : ∀ us w, (callFunc f us).run P w = .ok (.enter f us) w) (hv : evs L xs = some vs) (hE : ∀ w, St w0 D F w → E w) (h : ∀ b, p b → Pre n ((d, v b) :: L) (St w0 D (HB b ++ F)) K) : EOp P n L (St w0 D F) o Q K :=
  e_call ho hd hn hc hv (fun w x => s.frame (F := F) x (hE w x)) h
end
def cl0 (l : List Opn) : Cl := ⟨l, 0, .idle⟩
def hm0 (nb nf fl : Nat) (ls : List (List Opn)) : HM := ⟨lf0 nb nf, ls.map cl0, fl, 1, 0, [], Sc.newM (ls.length + (fl + 1))⟩
def hmS (nb nf fl : Nat) (ls : List (List Opn)) : HM := (hm0 nb nf fl ls).setT (tellT (hm0 nb nf fl ls) (ls.length + (fl + 1)) (Sc.newM (ls.length + (fl + 1))))
theorem hm0_ok {nb nf fl : Nat} {ls : List (List Opn)} {bH bt : Nat} {vT vO vE : Value} {cc : List CC} {fs : List Nat} {x : HQ} (hx : LH x (lf0 nb nf) 0) (hc : cc.map CC.m = ls.map cl0) (hf : fs.length = fl) (h8 : ls.length + (fl + 1) ≤ 8) (hol : ∀ l ∈ ls, l.length ≤ 1000) : HOk ⟨bH, bt, vT, vO, vE, cc, fs, x⟩ (hm0 nb nf fl ls) 0 :=
  ⟨hx, hc, hf, by show _ = (ls.map cl0).length + _; rw [List.length_map]; rfl, Sc.new_ok (by omega) h8, by show (ls.map cl0).length + _ ≤ 8; rw [List.length_map]; exact h8, fun c hc => by
    obtain ⟨l, hl, rfl⟩ := List.mem_map.1 hc
    exact ⟨hol l hl, Nat.zero_le _, fun h => absurd I h⟩, Nat.le_refl 0, ⟨by show (1 : Int) ≤ 1; omega, by show (1 : Int) ≤ _; omega⟩, Nat.le_refl 0⟩
def ctk (c : CC) : Tk := Tk.c c.b
theorem tks_eq (h : HC) : h.tks = h.cc.map ctk ++ h.fl.map Tk.f ++ [Tk.e] := by unfold HC.tks; rw [List.append_assoc]; rfl
theorem RWs_nil : ∀ (us : List Sv) (ls : List (List Opn)), us.length = ls.length → RWs (us.drop ls.length) (ls.drop ls.length) = [] := fun us ls h => by
  rw [List.drop_of_length_le (by omega), List.drop_of_length_le (by omega)]; rfl
theorem fnew (t : Int) : Con Tryz.prog 52 [.int .i64 t] (fun _ => True) [] (fun bf : Nat => ptV bf) (fun _ => True) (fun bf => [FLE bf t]) := by
  intro w hE hH
  refine enter (n := 6) (vs := [.int .i64 t]) (St w [] []) func52 I I I (St.init hH) ?_
  refine Cs I (Ak I (Cs I (Lm I (Lq I (q_build ([.int .i64 t, .int .i64 1, .bool false, .bool false, .pointer none, .int .i64 0, .int .i64 0]) I I (fun w => by kernel_rfl)) (l_e I (e_box I I I I ?_))))))
  intro bf
  refine cells_eq (show _ = [.int .i64 t, .int .i64 1, .bool false, .bool false, .pointer none, .int .i64 0, .int .i64 0] from I) (Ak I (c_ret (r_one I I ?_)))
  exact fun _ h => ⟨bf, rfl, trivial, h⟩
theorem hhnew {vo : Value} {vs : List Sv} {ls : List (List Opn)} {nb nf fl : Nat} (hb1 : 1 ≤ nb) (hb2 : nb ≤ 256) (hf3 : fl ≤ 3) (hn1 : 1 ≤ ls.length) (hn4 : ls.length ≤ 4) (hfr : 4 * (ls.length + fl) < nf) (hf64 : nf ≤ 64) (hol : ∀ l ∈ ls, l.length ≤ 24) (hkd : ∀ l ∈ ls, ∀ o ∈ l, 1 ≤ o.kind ∧ o.kind ≤ 4) : Con Tryz.prog 18 [.agg #[.int .i64 (nb : Int), .int .i64 (nf : Int), .int .i64 (fl : Int), vo]] (fun w => RRo w vo vs ls) [] (fun y : HC => .tuple #[ptV y.bH, .int .i64 0]) (fun y => HOk y (hmS nb nf fl ls) 0) (fun y => y.H (hmS nb nf fl ls)) := by
  intro w hE hH
  have hlen := hE.len
  refine enter (n := 106) (vs := [.agg #[.int .i64 (nb : Int), .int .i64 (nf : Int), .int .i64 (fl : Int), vo]]) (St w [] []) func18 I I I (St.init hH) ?_
  refine Cs I (l_e I (e_box I I I I ?_))
  intro bc
  refine cells_eq (show _ = [.int .i64 (nb : Int), .int .i64 (nf : Int), .int .i64 (fl : Int), vo] from I) (Las I (Ak I (c_seq (Cs I (Lq I (q_loadCAgg ([.int .i64 (nb : Int), .int .i64 (nf : Int), .int .i64 (fl : Int), vo]) I isAgg27 sizeOf27 I (Hat 0 I) (I) (I)) (l_e I (e_call_00 (hcheck hb1 hb2 hf3 hn1 hn4 hfr hf64 hol hkd) I I I call49 I (fun _ h => hE.keep h) ?_)))))))
  intro _ _
  refine Ak I (Cs I (Lm I (Lq I (q_neq I I I) (Nk (Sb 13 false I (I) (c_false I (c_skip (Kt (Cs I (Lfa U27 I Z3 I (Lo G3 0 I (Lfa U27 I Z3 I (Lo G3 0 I (l_e I (e_callN (hnew hb1 hb2 (by omega) hf64) I I I call50 I Tt ?_)))))))))))))))
  intro x hx
  refine Pre.world (St _ _ (cellsE bc 27 [.int .i64 (nb : Int), .int .i64 (nf : Int), .int .i64 (fl : Int), vo] :: HQ.H x)) (fun _ h => h.perm (List.perm_append_comm (l₂ := [_]))) ?_
  refine Lm I (Lq I (q_extract I I I) (Lq I (q_extract I I I) (Las I (Ak I (c_seq (Cs I (Lm I (Lq I (q_neq I I I) (Nk (Sb 24 false I (I) (c_false I (c_skip (Kt (Cs I (Lm I (Lfa U27 I Z25 I (Lo G25 0 I (l_e I (e_callN (hcopied (by omega) (fun l hl => Nat.le_trans (hol l hl) (by decide))) I I I call51 I (fun _ h => hE.keep h) ?_)))))))))))))))))))
  rintro ⟨vO, us⟩ hus
  dsimp only at hus
  refine Pre.world (St _ _ (rowE vO 40 encSv us :: cellsE bc 27 [.int .i64 (nb : Int), .int .i64 (nf : Int), .int .i64 (fl : Int), vo] :: (RWs us ls ++ HQ.H x))) (fun _ h => h.perm (List.Perm.cons _ List.perm_middle)) ?_
  refine Pre.fact (fun _ h => row_sl (h.at 0 I)) ?_
  rintro ⟨aO, cO, rfl⟩
  refine Lq I (q_build ([ptV x.bh, .pointer none, nil0, (.slice aO us.length cO), nil0, .int .u64 1, .int .i64 0]) I I (fun w => by kernel_rfl)) (l_e I (e_box I I I I ?_))
  intro bH
  refine cells_eq (show _ = [ptV x.bh, .pointer none, nil0, (.slice aO us.length cO), nil0, .int .u64 1, .int .i64 0] from I) (Ak I (c_seq (Cs I (Lm I (Lc I (Lfa U100 I Z25 I (Lo G25 0 I (Lq I (q_lenV I U25 I (Hrd 1 I)) (Lm I (Nk (c_block (row0 102 Tk.enc none (pull3 (pull3 (pull2 (pull3 ?_))))))))))))))))
  refine c_loop3 (fun (i : Nat) (vT : Value) (cc : List CC) => [(1, .pointer (some ⟨bc, 0, none⟩)), (7, ptV bH), (35, .slice aO us.length cO), (36, .int .i64 (us.length : Int)), (37, .int .i64 (i : Int))]) (fun (i : Nat) (vT : Value) (cc : List CC) => St w [] (cellsE bH 100 [ptV x.bh, .pointer none, vT, (.slice aO us.length cO), nil0, .int .u64 1, .int .i64 0] :: rowE vT 102 Tk.enc (cc.map ctk) :: rowE (.slice aO us.length cO) 40 encSv us :: cellsE bc 27 [.int .i64 (nb : Int), .int .i64 (nf : Int), .int .i64 (fl : Int), vo] :: (CLs 0 cc ++ (RWs (us.drop i) (ls.drop i) ++ HQ.H x)))) (fun (i : Nat) (vT : Value) (cc : List CC) => i ≤ us.length ∧ cc.length = i ∧ cc.map CC.m = (ls.take i).map cl0) (fun (i : Nat) (vT : Value) (cc : List CC) => us.length - i) (0) (nil0) ([]) ⟨Nat.zero_le _, rfl, rfl⟩ (Sn I (Sn I (Sn I (Sn I (Sn I (Sub.nil)))))) Ih ?_
  intro i vT cc hp
  refine c_seq ?_
  obtain ⟨hi, hcl, hcm⟩ := hp
  have hkl : (cc.map ctk).length = cc.length := List.length_map ..
  refine Cr I (Lq I (q_lss I I I) (Ns ?_))
  refine Pre.caseB 38 I (fun hlt => ?_) (fun hlt => ?_)
  · try simp only [B4] at hlt
    obtain ⟨s, hs⟩ : ∃ s, us[i]? = some s := ⟨_, List.getElem?_eq_getElem (by omega)⟩
    obtain ⟨l, hl⟩ : ∃ l, ls[i]? = some l := ⟨_, List.getElem?_eq_getElem (by omega)⟩
    have hts := take_snoc hl
    have hrd := RWs_drop us ls i s l hs hl
    refine c_true I (c_skip (Ks (c_block (Cs I (Lq I (q_indexV i I U25 Z40 I (Hrd 2 I) I I (by omega)) (Lq I (q_loadV i 0 I G40 I I (Hrd 2 I) hs I) (Ak I (Cr I (Lm I (Lm I (Lc I (Lfa U100 I Z98 I (Lo G98 0 I (Lm I (Lq I (q_build ([s.v, .int .i64 0, .pointer none, .pointer none]) I I (fun w => by kernel_rfl)) (l_e I (e_box I I I I ?_)))))))))))))))))
    intro bk
    refine cells_eq (show _ = [s.v, .int .i64 ((0 : Nat) : Int), .pointer none, .pointer none] from I) (Lq rfl (q_iface rfl U103 (fun _ h => by cases h) rfl) (l_e I (e_buildSliceV (sz := 1) [.tmp 49] I I I I I U98 Z102 I zeroValue102 I ?_)))
    intro b1
    refine pull3 (l_e I (e_append I I I U98 U98 info102 I I I I I (fun _ h => lit_rd (h.at 1 I) Tk.enc [(Tk.c bk)] I I) (by simp only [byt102, List.length_append, List.length_cons, List.length_nil]; omega) (by simp only [List.length_append, List.length_cons, List.length_nil]; omega) ?_))
    intro v3
    refine pull1 (drop0 (Lc I (Lfa U100 I Z98 I (Pre.fact (fun _ h => row_sl (h.at 0 I)) ?_))))
    rintro ⟨aT, cT, hvT⟩
    refine pull2 (l_e I (e_store I I Z98 I I (by rw [hvT]; rfl) (Nat.le_of_ble_eq_true I) (cells_eq (show _ = [ptV x.bh, .pointer none, v3, (.slice aO us.length cO), nil0, .int .u64 1, .int .i64 0] from I) (l_nil (k_block (Kt (Cr I (Lq I (q_inc I I I (by omega)) (Lm I (l_nil (pull2 (pull4 (pull4 (pull4 (pull4 ?_)))))))))))))))
    exact k_round ((i + 1, v3, cc ++ [cc0 bk s l])) (by dsimp only; omega) ⟨by dsimp only; omega, by simp [hcl], by rw [hts, List.map_append, List.map_append, hcm]; rfl⟩ (Sub.cons I (Sub.cons I (Sub.cons I (Sub.cons I (Sub.cons I (Sub.nil)))))) (fun _ h => by
        dsimp only
        rw [hrd] at h
        rw [List.map_append]
        exact h.perm (newc_perm [_, _, _, _] cc bk s l _))
  · try simp only [B4] at hlt
    have hin : i = ls.length := by omega
    subst hin
    rw [RWs_nil us ls (by omega)]
    rw [List.take_of_length_le (Nat.le_refl _)] at hcm
    have hccn : cc.length = ls.length := hcl
    refine c_false I (c_exit (k_then_exit (k_then_exit (k_block_exit (Ks (Cs I (Lfa U27 I Z3 I (Lo G3 3 I (Lm I (Nk (c_block ?_)))))))))))
    refine c_loop3 (fun (j : Nat) (vT : Value) (fs : List Nat) => [(1, .pointer (some ⟨bc, 0, none⟩)), (7, ptV bH), (56, .int .i64 (fl : Int)), (57, .int .i64 (j : Int))]) (fun (j : Nat) (vT : Value) (fs : List Nat) => St w [] (cellsE bH 100 [ptV x.bh, .pointer none, vT, (.slice aO us.length cO), nil0, .int .u64 1, .int .i64 0] :: rowE vT 102 Tk.enc (cc.map ctk ++ fs.map Tk.f) :: rowE (.slice aO us.length cO) 40 encSv us :: cellsE bc 27 [.int .i64 (nb : Int), .int .i64 (nf : Int), .int .i64 (fl : Int), vo] :: (CLs 0 cc ++ (FLs cc.length fs ++ HQ.H x)))) (fun (j : Nat) (vT : Value) (fs : List Nat) => j ≤ fl ∧ fs.length = j) (fun (j : Nat) (vT : Value) (fs : List Nat) => fl - j) (0) (vT) ([]) ⟨Nat.zero_le _, rfl⟩ (Sn I (Sn I (Sn I (Sn I (Sub.nil))))) (fun _ h => by rw [List.map_nil, List.append_nil]; exact h) ?_
    intro j vT fs hp
    refine c_seq ?_
    obtain ⟨hj, hfl⟩ := hp
    have hkl2 : (cc.map ctk ++ fs.map Tk.f).length = cc.length + fs.length := by simp
    have hfm : (fs.map Tk.f).length = fs.length := List.length_map ..
    refine Cr I (Lq I (q_lss I I I) (Ns ?_))
    refine Pre.caseB 58 I (fun hlt2 => ?_) (fun hlt2 => ?_)
    · try simp only [B4] at hlt2
      refine c_true I (c_skip (Ks (c_block (Pre.fact (fun _ h => row_sl (h.at 1 I)) ?_))))
      rintro ⟨aV, cV, rfl⟩
      refine D8 [(0,O),(1,O),(2,O),(3,O),(4,O),(5,O),(6,O),(7,O),(8,O),(9,O),(10,V),(11,O),(12,O),(13,V),(14,V),(15,W),(16,W),(17,W)] [15, 16, 17] [(_,O),(_,O),(_,O),(_,O),(_,O),(_,O),(_,O),(_,O),(_,O),(_,O),(_,V),(_,O),(_,O),(_,V),(_,V),(_,W),(_,W),(_,W)] (fun w2 => (cellsE bH 100 [ptV x.bh, .pointer none, (.slice aV (cc.map ctk ++ fs.map Tk.f).length cV), (.slice aO us.length cO), nil0, .int .u64 1, .int .i64 0]).at w2) I I I I St.drawn (Hat 0 I) (Dm I (Dm I (Dc I (Dfa U100 I Z98 I (Dq I (q_loadC I G98 I Ih I) (Dm I (Dc I (Dfa U100 I Z98 I (Dq I (q_loadC I G98 I Ih I) (Dq I (q_len I U98 I) (d_e I (e_callN (fnew _) I I I call52 I Tt ?_))))))))))))
      intro bf _
      refine d_held (Hat 1 I) (Dq I (q_build ([ptV bf]) I I (fun w => by kernel_rfl)) (Dq rfl (q_iface rfl U108 (fun _ h => by cases h) rfl) (d_e I (e_buildSliceV (sz := 1) [.tmp 71] I I I I I U98 Z102 I zeroValue102 I ?_))))
      intro b3
      refine d_held (Hat 2 I) (pull3 (d_e I (e_append I I I U98 U98 info102 I I I I I (fun _ h => lit_rd (h.at 1 I) Tk.enc [(Tk.f bf)] I I) (by simp only [byt102, List.length_append, List.length_cons, List.length_nil]; omega) (by simp only [List.length_append, List.length_cons, List.length_nil]; omega) ?_)))
      intro v4
      refine pull1 (drop0 (d_held (Hat 2 I) (d_t I (e_q I I (q_nilCheck I I) (d_t I (e_q I I (q_fieldAddr I U100 I Z98 I I) (Pre.fact (fun _ h => row_sl (h.at 0 I)) ?_)))))))
      rintro ⟨aT, cT, hvT⟩
      refine pull2 (d_t I (e_store I I Z98 I I (by rw [hvT]; rfl) (Nat.le_of_ble_eq_true I) (cells_eq (show _ = [ptV x.bh, .pointer none, v4, (.slice aO us.length cO), nil0, .int .u64 1, .int .i64 0] from I) (d_nil (k_block (Kt (Cr I (Lq I (q_inc I I I (by omega)) (Lm I (l_nil (pull2 (pull4 (pull4 (pull4 (pull4 ?_)))))))))))))))
      exact k_round ((j + 1, v4, fs ++ [bf])) (by dsimp only; omega) ⟨by dsimp only; omega, by simp [hfl]⟩ (Sub.cons I (Sub.cons I (Sub.cons I (Sub.cons I (Sub.nil))))) (fun _ h => by
          dsimp only
          rw [hkl2] at h
          rw [List.map_append, ← List.append_assoc]
          exact h.perm (newf_perm [_, _, _, _] (CLs 0 cc) cc.length fs bf _))
    · try simp only [B4] at hlt2
      have hjf : j = fl := by omega
      subst hjf
      refine c_false I (c_exit (k_then_exit (k_then_exit (k_block_exit (Kt (Cs I (Lm I (Lm I (Lc I (Lfa U100 I Z98 I (Lo G98 0 I (Lq I (q_build (([] : List Value)) I I (fun w => by kernel_rfl)) (Lq rfl (q_iface rfl underlying111 (fun _ h => by cases h) rfl) (l_e I (e_buildSliceV (sz := 1) [.tmp 83] I I I I I U98 Z102 I zeroValue102 I ?_)))))))))))))))
      intro b4
      refine pull2 (l_e I (e_append I I I U98 U98 info102 I I I I I (fun _ h => lit_rd (h.at 1 I) Tk.enc [Tk.e] I I) (by simp only [byt102, List.length_append, List.length_cons, List.length_nil]; omega) (by simp only [List.length_append, List.length_cons, List.length_nil]; omega) ?_))
      intro v5
      refine pull1 (drop0 (Lc I (Lfa U100 I Z98 I (Pre.fact (fun _ h => row_sl (h.at 0 I)) ?_))))
      rintro ⟨aT, cT, hvT⟩
      have hkl3 : ((cc.map ctk ++ fs.map Tk.f) ++ [Tk.e]).length = ls.length + (j + 1) := by simp [hccn, hfl]
      refine pull1 (l_e I (e_store I I Z98 I I (by rw [hvT]; rfl) (Nat.le_of_ble_eq_true I) (cells_eq (show _ = [ptV x.bh, .pointer none, v5, (.slice aO us.length cO), nil0, .int .u64 1, .int .i64 0] from I) (Ns (Cs I (Lm I (Lm I (Lc I (Lfa U100 I Z98 I (Lo G98 0 I (Lq I (q_lenV I U98 I (Hrd 1 I)) (Sv' 94 (.int .i64 ((ls.length + (j + 1) : Nat) : Int)) I (by rw [hkl3]) (l_e I (e_call_01 (Sc.new_yes (n := ls.length + (j + 1)) (by omega) (by omega)) I I I call53 I Tt ?_))))))))))))))
      intro bt _
      refine Lm I (Lq I (q_extract I I I) (Lq I (q_extract I I I) (Lc I (Lfa U100 I Z97 I (pull1 (l_e I (e_store I I Z97 I I I (Nat.le_of_ble_eq_true I) (cells_eq (show _ = [ptV x.bh, ptV bt, v5, (.slice aO us.length cO), nil0, .int .u64 1, .int .i64 0] from I) (Ak I (Cs I (Lm I (Lq I (q_neq I I I) (Nk (Sb 101 false I (I) (c_false I (c_skip (Kt (Cs I (Lm I (row0 71 Evt.enc none (pull4 (drop0 (pull4 ?_)))))))))))))))))))))))
      refine drop0 (pull2 (pull3 (pull2 (pull3 ?_))))
      have kz : HOk (⟨bH, bt, v5, (.slice aO us.length cO), nil0, cc, fs, x⟩ : HC) (hm0 nb nf j ls) 0 := hm0_ok hx hcm hfl (by omega) (fun l hl => Nat.le_trans (hol l hl) (by decide))
      refine Pre.world (St w [] (HC.H (⟨bH, bt, v5, (.slice aO us.length cO), nil0, cc, fs, x⟩ : HC) (hm0 nb nf j ls))) (fun _ h => ?_) ?_
      · show St w [] (_ :: _ :: rowE v5 102 Tk.enc (HC.tks (⟨bH, bt, v5, (.slice aO us.length cO), nil0, cc, fs, x⟩ : HC)) :: _) _
        rw [tks_eq]
        exact h
      refine l_e I (e_callH [] (htell kz) I I I call42 I Tt ?_)
      intro _ _
      refine Pre.world (St _ _ (HC.H (⟨bH, bt, v5, (.slice aO us.length cO), nil0, cc, fs, x⟩ : HC) ((hm0 nb nf j ls).setT (tellT (hm0 nb nf j ls) (hm0 nb nf j ls).T.n (hm0 nb nf j ls).T)))) Ih ?_
      refine Nk (Cs I (Lm I (Las I (Ak I (c_ret (r_many (rs := [.tmp 2, .tmp 3]) I I ?_))))))
      exact fun _ h => ⟨(⟨bH, bt, v5, (.slice aO us.length cO), nil0, cc, fs, x⟩ : HC), rfl, kz.tellT _, h⟩
end Go.Proofs.YtloldofjddbjoaaGreat
namespace Go.Proofs.YtloldofjddbjoaaGreat
open Go.Sep Go.RowKit Tryz
section
variable {P : Program} {n : Nat} {L : Env} {o : Oper} {Q : Exit → Act → World → Prop} {K : Act → World → Prop} {w0 : World} {D : List Nat}
theorem e_callCH {β : Type} {v : β → Value} {p : β → Prop} {E : World → Prop} {HA : List Ent} {HB : β → List Ent} {g : Operand} {f : FuncId} {xs : List Operand} {ts : Array TypeId} {d : Nat} {vs us : List Value} (pre : List Ent) (s : Con P f (vs ++ us) E HA v p HB) (ho : o.op = .call ⟨.value g, xs.toArray, ts⟩) (hd : o.dst = some d) (hn : d.blt n = true) (hg : ev L g = some (.func (.func f) #[] us.toArray))
    (hc : ∀ us w, (callFunc f us).run P w = .ok (.enter f us) w) (hv : evs L xs = some vs) (hE : ∀ w, St w0 D (pre ++ HA) w → E w) (h : ∀ b, p b → Pre n ((d, v b) :: L) (St w0 D (pre ++ HB b)) K) : EOp P n L (St w0 D (pre ++ HA)) o Q K :=
  e_callV ho hd hn hg hc hv (fun w x => (s.frame (F := pre) (x.perm List.perm_append_comm) (hE w x)).mono (fun e w' ⟨b, he, hp, h'⟩ => ⟨b, he, hp, h'.perm List.perm_append_comm⟩)) h
end
def ndF (L : Lf) : Nd := if L.r.st = 2 then L.r.nd else ndL
def mapL (L : Lf) : List En := (ndF L).es
theorem ndF_leaf {x : HQ} {L : Lf} {B : Nat} (h : LH x L B) : (ndF L).leaf = true := by
  unfold ndF
  by_cases h2 : L.r.st = 2
  · obtain ⟨es, hnd, _⟩ := h.nd2 h2
    rw [if_pos h2, hnd]; rfl
  · rw [if_neg h2]; rfl
theorem vsplit (bw : Nat) : Con Tryz.prog 55 [.slice (some ⟨bw, 0, none⟩) 1 1] (fun _ => True) [cellsE bw 3 [.int .i64 0]] (fun _ : Unit => .tuple #[.slice (some ⟨bw, 0, none⟩) 0 1, .int .i64 0]) (fun _ => True) (fun _ => [cellsE bw 3 [.int .i64 0]]) := by
  intro w hE hH
  refine enter (n := 15) (vs := [.slice (some ⟨bw, 0, none⟩) 1 1]) (St w (dom [cellsE bw 3 [.int .i64 0]]) [cellsE bw 3 [.int .i64 0]]) func55 I I I (St.init hH) ?_
  refine Cs I (Las I (Ak I (c_seq (D8 [(0,O),(1,O),(2,O),(3,O),(4,O),(5,O),(6,O),(7,O),(8,O),(9,O),(10,O),(11,O),(12,W)] [12] [(_,O),(_,O),(_,O),(_,O),(_,O),(_,O),(_,O),(_,O),(_,O),(_,O),(_,O),(_,O),(_,W)] (fun w2 => (cellsE bw 3 [.int .i64 0]).at w2) I I I I St.drawn (Hat 0 I) (Dm I (Dm I (Dq I (q_len I U22 I) (Dq I (q_sub64 I I I (by decide)) (Dq I (q_sliceH 0 I U22 Z3 I I (by decide) (by decide)) (Dm I (Dm I (Dq I (q_len I U22 I) (Dq I (q_sub64 I I I (by decide)) (Dq I (q_indexAddr 0 I U22 Z3 I I (by decide) (by omega)) (Dq I (q_loadC I G3 I Ih I) (Das I (d_t I (e_q I I (q_assign I I) (d_nil (Kt (c_ret (r_many (rs := [.tmp 2, .tmp 3]) I I ?_))))))))))))))))))))))
  exact fun _ h => ⟨(), rfl, trivial, h⟩
theorem vat {x : HQ} {L : Lf} {B : Nat} (h : LH x L B) (pa : Option Addr) (ca : Nat) : Con Tryz.prog 56 [ptV x.bh, .slice pa 0 ca, .int .i64 0] (fun _ => True) (x.H) (fun s : N4 => .agg (⟨s, ndF L⟩ : NV).c.toArray) (fun _ => True) (fun s => nrows (⟨s, ndF L⟩ : NV) ++ x.H) := by
  intro w hE hH
  refine enter (n := 24) (vs := [ptV x.bh, .slice pa 0 ca, .int .i64 0]) (St w (dom (x.H)) (x.H)) func56 I I I (St.init hH) ?_
  refine Cs I (l_e I (e_alloc I I I zeroValue135 ?_))
  intro br
  refine cells_eq (show _ = nv0.c from I) (Nk (Cs I (Lm I (Lm I (l_e I (e_callH [_] (llook h) I I I call71 I Tt ?_))))))
  intro s _
  refine Pre.world (St _ _ (_ :: _ :: _ :: _ :: _ :: HQ.H (x))) Ih ?_
  refine Lm I (Lq I (q_extract I I I) (Lq I (q_extract I I I) (l_e I (e_alloc I I I zeroValue135 ?_))))
  intro bn
  refine cells_eq (show _ = nv0.c from I) (l_e I (e_storeAgg I I Z135 I I I (NV.one _) (by show 0 + 5 ≤ 5; decide) (cells_eq (show Sep.splice _ 0 ((⟨s, ndF L⟩ : NV)).c = ((⟨s, ndF L⟩ : NV)).c from Sep.splice_all I) (Ak I (c_seq (Cs I (Lm I (Lq I (q_not I I) (Lm I (Lm I (Lm I (l_e I (e_call_00 (Lt.contains_spec (va := .slice pa 0 ca) ([] : List Int) 0 (by decide)) I I I call105 I (fun _ _ => ⟨pa, ca, rfl, Nat.zero_le _, .inl rfl⟩) ?_)))))))))))))
  intro _ _
  refine Lq I (q_pick_f I I I) (Nk (Sb 21 false I (by simp) (c_false I (c_skip (Kt (Cs I (Lq I (q_loadCAgg ((⟨s, ndF L⟩ : NV).c) I G135 Z135 I (Hat 0 I) (I) (I)) (pull1 (l_e I (e_storeAgg I I Z135 I I I (NV.one _) (by show 0 + 5 ≤ 5; decide) (cells_eq (show Sep.splice _ 0 ((⟨s, ndF L⟩ : NV)).c = ((⟨s, ndF L⟩ : NV)).c from Sep.splice_all I) (Nk (c_ret (pull11 (pull11 (pull11 (pull11 (pull11 (pull11 (pull11 (pull11 (pull11 (pull11 ?_)))))))))))))))))))))))
  refine pull10 (pull11 (drop0 (r_res1 I (res_cellA I G135 Z135 (Hat 0 I) (I)) ?_)))
  exact fun _ h => ⟨s, rfl, trivial, h.drop⟩
theorem vbelow {x : HQ} {L : Lf} {B : Nat} (h : LH x L B) (bw bv bf : Nat) : Con Tryz.prog 54 [.slice (some ⟨bw, 0, none⟩) 1 1, .pointer (some ⟨bv, 0, none⟩), .pointer (some ⟨bf, 0, none⟩)] (fun _ => True) (cellsE bw 3 [.int .i64 0] :: cellsE bv 47 [ptV x.bh] :: x.H) (fun v : Value => v) (fun _ => True) (fun v => rowE v 79 En.enc (mapL L) :: cellsE bw 3 [.int .i64 0] :: cellsE bv 47 [ptV x.bh] :: x.H) := by
  intro w hE hH
  have hlf := ndF_leaf h
  refine enter (n := 42) (vs := [.slice (some ⟨bw, 0, none⟩) 1 1, .pointer (some ⟨bv, 0, none⟩), .pointer (some ⟨bf, 0, none⟩)]) (St w (dom (cellsE bw 3 [.int .i64 0] :: cellsE bv 47 [ptV x.bh] :: x.H)) (cellsE bw 3 [.int .i64 0] :: cellsE bv 47 [ptV x.bh] :: x.H)) func54 I I I (St.init hH) ?_
  refine Cs I (Ak I (Cs I (Lm I (l_e I (e_call_11 (vsplit bw) I I I call55 I Tt ?_)))))
  intro _ _
  refine Lm I (Lq I (q_extract I I I) (Lq I (q_extract I I I) (Las I (Ak I (Cs I (Lo G47 1 I (Lm I (Lm I (l_e I (e_callH [_, _] (vat h _ _) I I I call56 I Tt ?_))))))))))
  intro s _
  refine Pre.world (St _ _ (_ :: _ :: _ :: _ :: _ :: _ :: HQ.H (x))) Ih ?_
  refine l_e I (e_alloc I I I zeroValue135 ?_)
  intro bn
  refine cells_eq (show _ = nv0.c from I) (l_e I (e_storeAgg I I Z135 I I I (NV.one _) (by show 0 + 5 ≤ 5; decide) (cells_eq (show Sep.splice _ 0 ((⟨s, ndF L⟩ : NV)).c = ((⟨s, ndF L⟩ : NV)).c from Sep.splice_all I) (Ns (Cs I (Lfa U135 I Z4 I (Lo G4 0 I (Nk (Sb 21 true I (hlf) (c_true I (Cs I (Lfa U135 I Z49 I (Lo G49 0 I (Ak I (c_ret (k_then_ret (pull12 (pull12 (pull12 (pull12 (pull12 (pull12 (pull8 ?_)))))))))))))))))))))))
  refine pull8 (pull12 (pull12 (pull12 (pull12 (pull12 (drop0 ?_))))))
  skip
  refine r_one I I ?_
  exact fun _ h => ⟨s.e.v, rfl, trivial, h.sublist (List.Sublist.cons_cons _ ((List.Sublist.cons _ (List.Sublist.cons _ (List.Sublist.cons _ (List.Sublist.refl _))))))⟩
theorem vmap {x : HQ} {L : Lf} {B : Nat} (h : LH x L B) : Con Tryz.prog 20 [ptV x.bh] (fun _ => True) (x.H) (fun v : Value => v) (fun _ => True) (fun v => rowE v 79 En.enc (mapL L) :: x.H) := by
  intro w hE hH
  refine enter (n := 8) (vs := [ptV x.bh]) (St w (dom (x.H)) (x.H)) func20 I I I (St.init hH) ?_
  refine Cs I (l_e I (e_box I I I I ?_))
  intro bv
  refine cells_eq (show _ = [ptV x.bh] from I) (Ak I (Cs I (l_e I (e_alloc I I I zeroValue129 ?_))))
  intro bf
  refine Nk (Cs I (Lq I (q_makeFunc (fn := .func 0) (us := #[.pointer (some ⟨bv, 0, none⟩), .pointer (some ⟨bf, 0, none⟩)]) 54 I (vs := #[]) (fun a k => by simp) (fun a k => by simp [k.eval (x := .tmp 1) rfl, k.eval (x := .tmp 3) rfl])) (l_e I (e_store I I sizeOf129 I I I (Nat.le_of_ble_eq_true I) (cells_eq (show _ = [.func (.func 54) #[] #[.pointer (some ⟨bv, 0, none⟩), .pointer (some ⟨bf, 0, none⟩)]] from I) (Nk (Cs I (Lo isAgg129 0 I (l_e I (e_buildSliceV (sz := 1) [.const (.int .i64 0)] I I I I I U22 Z3 I zeroValue3 I ?_))))))))))
  intro bw
  refine pull8 (pull8 (pull8 (pull8 (pull8 (pull8 (pull8 (pull7 (pull8 (l_e I (e_callCH [_] (vs := [.slice (some ⟨bw, 0, none⟩) 1 1]) (us := [.pointer (some ⟨bv, 0, none⟩), .pointer (some ⟨bf, 0, none⟩)]) (vbelow h bw bv bf) I I I I call54 I Tt ?_))))))))))
  intro v _
  refine Pre.world (St _ _ (_ :: _ :: _ :: _ :: HQ.H x)) Ih ?_
  refine Ak I (c_ret (pull9 (pull9 (pull9 (pull9 (pull9 (pull9 (pull7 (pull9 (pull9 (pull9 (drop0 (drop0 (drop0 (r_one I I ?_)))))))))))))))
  exact fun _ h => ⟨v, rfl, trivial, h⟩
theorem zmap {z : HC} {m : HM} {B : Nat} (k : HOk z m B) : Con Tryz.prog 20 [ptV z.x.bh] (fun _ => True) (z.H m) (fun v : Value => v) (fun _ => True) (fun v => rowE v 79 En.enc (mapL m.L) :: z.H m) := by
  have hp : (z.H m).Perm (z.x.H ++ (HSE z.bH (ptV z.x.bh) z.bt z.vT z.vO z.vE m.sq m.pk :: rowE z.vE 71 Evt.enc m.ev :: rowE z.vT 102 Tk.enc z.tks :: cellsE z.bt 171 (Sc.tabC m.T) :: (CLs 0 z.cc ++ FLs z.cc.length z.fl))) := by
    have h1 : z.H m = (HSE z.bH (ptV z.x.bh) z.bt z.vT z.vO z.vE m.sq m.pk :: rowE z.vE 71 Evt.enc m.ev :: rowE z.vT 102 Tk.enc z.tks :: cellsE z.bt 171 (Sc.tabC m.T) :: (CLs 0 z.cc ++ FLs z.cc.length z.fl)) ++ z.x.H := by
      show _ :: _ :: _ :: _ :: (CLs 0 z.cc ++ (FLs z.cc.length z.fl ++ z.x.H)) = _ :: _ :: _ :: _ :: ((CLs 0 z.cc ++ FLs z.cc.length z.fl) ++ z.x.H)
      rw [List.append_assoc]
    rw [h1]
    exact List.perm_append_comm
  exact Con.pack _ (vmap k.lh) hp (fun _ _ _ => trivial) id (fun v _ => ⟨rfl, trivial, [], by rw [List.append_nil]; exact (hp.symm.cons _)⟩)
end Go.Proofs.YtloldofjddbjoaaGreat
namespace Go.Proofs.YtloldofjddbjoaaGreat
open Go.Sep Go.RowKit Tryz
theorem hframes0 {x : HQ} {B : Nat} (h : x.Ok B) : Con Tryz.prog 97 [ptV x.bc] (fun _ => True) x.H (fun b : Value × List FC => b.1) (fun b => b.2.map _root_.Go.Proofs.YtloldofjddbjoaaGreat.vw = x.q.M.fr) (fun b => rowE b.1 202 FC.encA b.2 :: x.H) := fun w he hh =>
  (hframes h w he hh).mono (fun e w' ⟨b, h1, h2, h3⟩ => ⟨(b.1, b.2.1), h1, h2.1, h3.sublist (List.Sublist.cons_cons _ (List.sublist_append_right _ _))⟩)
theorem lidle {x : HQ} {L : Lf} {B : Nat} (h : LH x L B) {k : Nat} {l : LC} (h0 : x.lt[k]? = some l) : Con Tryz.prog 98 [ptV l.b] (fun _ => True) x.H (fun _ : Unit => .bool (Lt.idleB l.m)) (fun _ => True) (fun _ => x.H) :=
  HQ.lookL (A' := fun _ : Unit => []) h0 (Lt.idle_spec (h.ok.l l (List.mem_of_getElem? h0)) h.ok.b9 l.b l.vR l.vQ) (fun _ _ _ => trivial)
theorem idle_fr {L : Lf} (h : L.Ok) (h1 : L.r.st = 0 ∨ L.r.st = 2) (h2 : L.r.pins = 0) (h3 : L.cl = 0) : ∀ v ∈ L.M.fr, (v.st = 0 ∨ v.st = 2) ∧ v.pins = 0 := fun v hv => by
  rcases List.mem_cons.1 (show v ∈ L.r :: L.rest from hv) with e | e
  · rw [e]; exact ⟨h1, h2⟩
  · unfold Lf.rest at e
    rw [h3] at e
    rw [(List.mem_replicate.1 (show v ∈ List.replicate (L.n - 1 - 0) free0 from by simpa using e)).2]
    exact ⟨.inl rfl, rfl⟩
theorem idle_la {x : HQ} {L : Lf} {B : Nat} (h : LH x L B) (hi : Lt.idleB L.la = true) {k : Nat} {l : LC} (h0 : x.lt[k]? = some l) : Lt.idleB l.m = true := by
  have hl : L.las[k]? = some l.m := by rw [← h.l, List.getElem?_map, h0]; rfl
  have hm := List.mem_of_getElem? hl
  rcases List.mem_cons.1 (show l.m ∈ L.la :: List.replicate (L.n - 1) Lt.newL from hm) with e | e
  · rw [e]; exact hi
  · rw [(List.mem_replicate.1 e).2]; decide
theorem hidle {x : HQ} {L : Lf} {B : Nat} (h : LH x L B) (h1 : L.r.st = 0 ∨ L.r.st = 2) (h2 : L.r.pins = 0) (h3 : L.cl = 0) (hI : Lt.idleB L.la = true) : Con Tryz.prog 48 [ptV x.bh] (fun _ => True) (x.H) (fun _ : Unit => .bool true) (fun _ => True) (fun _ => x.H) := by
  intro w hE hH
  refine enter (n := 48) (vs := [ptV x.bh]) (St w (dom (x.H)) (x.H)) func48 I I I (St.init hH) ?_
  refine c_seq ?_
  have hll : (x.lt.map LC.b).length = x.lt.length := List.length_map ..
  have hl6 : x.lt.length ≤ 64 := by rw [h.ok.ll]; exact h.ok.q.ok.n64
  have hlf := h.ok.ll
  refine Cr I (Ak I (c_seq (Cs I (Lm I (Lc I (Lfa U91 I Z86 I (Lo G86 0 I (l_e I (e_callH [] (hframes0 h.ok) I I I call97 I Tt ?_)))))))))
  rintro ⟨vf, fs⟩ hfs
  refine Pre.world (St _ _ (_ :: HQ.H (x))) Ih ?_
  dsimp only at hfs
  have hfl : fs.length = x.lt.length := by rw [hlf, ← hfs, List.length_map]
  refine Lq I (q_lenV I U198 I (Hrd 0 I)) (Lm I (Nk (c_block ?_)))
  refine c_loop1 (fun (i : Nat) => [(0, ptV x.bh), (9, vf), (10, .int .i64 (fs.length : Int)), (11, .int .i64 (i : Int))]) (fun (i : Nat) => St w (dom x.H) (rowE vf 202 FC.encA fs :: x.H)) (fun (i : Nat) => i ≤ fs.length) (fun (i : Nat) => fs.length - i) (0) (Nat.zero_le _) (Sn I (Sn I (Sn I (Sn I (Sub.nil))))) Ih ?_
  intro i hi
  refine Cs I (Lq I (q_lss I I I) (Ns ?_))
  refine Pre.caseB 12 I (fun hlt => ?_) (fun hlt => ?_)
  · try simp only [B4] at hlt
    obtain ⟨f, hf⟩ : ∃ f, fs[i]? = some f := ⟨_, List.getElem?_eq_getElem (by omega)⟩
    obtain ⟨l, h0⟩ : ∃ l, x.lt[i]? = some l := ⟨_, List.getElem?_eq_getElem (by omega)⟩
    have hy : (x.lt.map LC.b)[i]? = some l.b := by rw [List.getElem?_map, h0]; rfl
    have hfr := idle_fr h.o h1 h2 h3 (_root_.Go.Proofs.YtloldofjddbjoaaGreat.vw f) (by rw [← h.m, ← hfs]; exact List.mem_map.2 ⟨f, List.mem_of_getElem? hf, rfl⟩)
    have hs : f.st = 0 ∨ f.st = 2 := hfr.1
    have hp : f.pins = 0 := hfr.2
    have hid := idle_la h hI h0
    refine c_true I (c_skip (Ks (c_block (Cs I (Lm I (Lq I (q_indexV i I U198 sizeOf202 I (Hrd 0 I) I I (by omega)) (Lq I (q_loadVAgg i I isAgg202 sizeOf202 I I (Hrd 0 I) hf) (l_e I (e_alloc I I I zeroValue202 ?_)))))))))
    intro bg
    refine Las I (l_e I (e_storeAgg I I sizeOf202 I I I (FC.oneA f) (by show 0 + 13 ≤ 13; decide) (cells_eq (show _ = FC.cA f from Sep.splice_all I) (Nk (Cs I (Lfa U202 I Z3 I (Lo G3 0 I (Lq I (q_neq I I I) (Lm I ?_)))))))))
    rcases hs with hs | hs
    · refine Sb 19 false I (by first | rfl | (rw [hs]; rfl) | (rw [hp]; rfl) | (simp only [decide_eq_false_iff_not]; omega)) (Lx I (Lx I (Lx I (Lq I (q_pick_f I I I) (Lm I (Lfa U202 I Z3 I (Lo G3 0 I (Lq I (q_gtr I I I) (Lq I (q_pick_f I I I) (Lm I (Sb 29 false I (by first | rfl | (rw [hs]; rfl) | (rw [hp]; rfl) | (simp only [decide_eq_false_iff_not]; omega)) (Lm I (Lc I (Lfa U91 I Z88 I (Lo isAgg88 2 I (Lm I (Lq I (q_indexV i I U88 sizeOf203 I (Hrd 3 I) I I (by omega)) (Lq I (q_loadV i 0 I isAgg203 I I (Hrd 3 I) hy I) (pull7 (pull7 (pull7 (pull7 (pull7 ?_)))))))))))))))))))))))
      refine pull7 (pull7 (pull7 (l_e I (e_callH [_, _] (lidle h h0) I I I call98 I Tt ?_))))
      intro _ _
      refine Pre.world (St _ _ (_ :: _ :: HQ.H (x))) Ih ?_
      refine Sv' 37 (.bool true) I (by rw [hid]) (Lq I (q_not I I) (Lq I (q_pick_f I I I) (Nk (c_false I (c_skip (k_block (Kt (Cr I (Lq I (q_inc I I I (by omega)) (Lm I (l_nil (drop0 ?_))))))))))))
      exact k_round (i + 1) (by omega) (by omega) (Sub.cons I (Sub.cons I (Sub.cons I (Sub.cons I (Sub.nil))))) (fun _ h => h)
    · refine Sb 19 true I (by first | rfl | (rw [hs]; rfl) | (rw [hp]; rfl) | (simp only [decide_eq_false_iff_not]; omega)) (Lfa U202 I Z3 I (Lo G3 0 I (Lq I (q_neq I I I) (Lq I (q_pick_t I I I) (Lm I (Sb 24 false I (by first | rfl | (rw [hs]; rfl) | (rw [hp]; rfl) | (simp only [decide_eq_false_iff_not]; omega)) (Lfa U202 I Z3 I (Lo G3 0 I (Lq I (q_gtr I I I) (Lq I (q_pick_f I I I) (Lm I (Sb 29 false I (by first | rfl | (rw [hs]; rfl) | (rw [hp]; rfl) | (simp only [decide_eq_false_iff_not]; omega)) (Lm I (Lc I (Lfa U91 I Z88 I (Lo isAgg88 2 I (Lm I (Lq I (q_indexV i I U88 sizeOf203 I (Hrd 3 I) I I (by omega)) (Lq I (q_loadV i 0 I isAgg203 I I (Hrd 3 I) hy I) (pull7 (pull7 (pull7 (pull7 ?_)))))))))))))))))))))))
      refine pull7 (pull7 (pull7 (pull7 (l_e I (e_callH [_, _] (lidle h h0) I I I call98 I Tt ?_)))))
      intro _ _
      refine Pre.world (St _ _ (_ :: _ :: HQ.H (x))) Ih ?_
      refine Sv' 37 (.bool true) I (by rw [hid]) (Lq I (q_not I I) (Lq I (q_pick_f I I I) (Nk (c_false I (c_skip (k_block (Kt (Cr I (Lq I (q_inc I I I (by omega)) (Lm I (l_nil (drop0 ?_))))))))))))
      exact k_round (i + 1) (by omega) (by omega) (Sub.cons I (Sub.cons I (Sub.cons I (Sub.cons I (Sub.nil))))) (fun _ h => h)
  · try simp only [B4] at hlt
    refine c_false I (c_exit (k_then_exit (k_then_exit (k_block_exit (Kt (Cs I (Lm I (Lc I (Lfa U91 I Z86 I (Lo G86 1 I (l_e I (e_callH [_] (hline h.ok) I I I call99 I Tt ?_))))))))))))
    intro v _
    refine Pre.world (St _ _ (_ :: _ :: HQ.H (x))) Ih ?_
    refine Lq I (q_lenV I U22 I (Hrd 1 I)) (Lq I (q_eql I I I) (Ak I (c_ret (pull7 (pull7 (pull7 (pull7 (pull7 (pull7 (pull6 (pull7 (drop0 (drop0 (r_one I I ?_))))))))))))))
    exact fun _ hh => ⟨(), congrArg (fun z => Ending.returned (Value.bool z)) (by rw [h.m]; rfl), trivial, hh⟩
theorem zidle {z : HC} {m : HM} {B : Nat} (k : HOk z m B) (h1 : m.L.r.st = 0 ∨ m.L.r.st = 2) (h2 : m.L.r.pins = 0) (h3 : m.L.cl = 0) (hI : Lt.idleB m.L.la = true) : Con Tryz.prog 48 [ptV z.x.bh] (fun _ => True) (z.H m) (fun _ : Unit => .bool true) (fun _ => True) (fun _ => z.H m) := by
  have hp : (z.H m).Perm (z.x.H ++ (HSE z.bH (ptV z.x.bh) z.bt z.vT z.vO z.vE m.sq m.pk :: rowE z.vE 71 Evt.enc m.ev :: rowE z.vT 102 Tk.enc z.tks :: cellsE z.bt 171 (Sc.tabC m.T) :: (CLs 0 z.cc ++ FLs z.cc.length z.fl))) := by
    have h1 : z.H m = (HSE z.bH (ptV z.x.bh) z.bt z.vT z.vO z.vE m.sq m.pk :: rowE z.vE 71 Evt.enc m.ev :: rowE z.vT 102 Tk.enc z.tks :: cellsE z.bt 171 (Sc.tabC m.T) :: (CLs 0 z.cc ++ FLs z.cc.length z.fl)) ++ z.x.H := by
      show _ :: _ :: _ :: _ :: (CLs 0 z.cc ++ (FLs z.cc.length z.fl ++ z.x.H)) = _ :: _ :: _ :: _ :: ((CLs 0 z.cc ++ FLs z.cc.length z.fl) ++ z.x.H)
      rw [List.append_assoc]
    rw [h1]
    exact List.perm_append_comm
  exact Con.pack _ (hidle k.lh h1 h2 h3 hI) hp (fun _ _ _ => trivial) id (fun v _ => ⟨rfl, trivial, [], by rw [List.append_nil]; exact hp.symm⟩)
namespace Lt
theorem letQ_rd (u : Int) : ∀ (q : List Wt) (m : La), u ∈ m.rd → u ∈ (letQ q m).2.rd
  | [], m, h => h
  | w :: q, m, h => by
    unfold letQ
    split
    · refine letQ_rd u q _ ?_
      unfold giveL; split
      · exact h
      · exact ins_mem.2 (.inr h)
    · exact h
theorem letQ_wr {u : Int} (hu : u ≠ -1) : ∀ (q : List Wt) (m : La), m.wr = u → (letQ q m).2.wr = u
  | [], m, h => h
  | w :: q, m, h => by
    unfold letQ
    rw [if_neg]
    · exact h
    · intro ho; have := (openB_iff.1 ho).1; omega
theorem letQ_mem {u : Int} {b : Bool} (hu : u ≠ -1) : ∀ (q : List Wt) (m : La), (u, b) ∈ q → (u, b) ∈ (letQ q m).2.q ∨ (if b = true then (letQ q m).2.wr = u else u ∈ (letQ q m).2.rd)
  | [], m, h => by cases h
  | w :: q, m, h => by
    unfold letQ
    split
    · rename_i ho
      rcases List.mem_cons.1 h with e | e
      · subst e
        refine .inr ?_
        cases b with
        | true => exact letQ_wr hu q _ rfl
        | false => exact letQ_rd u q _ (by show u ∈ ins u m.rd; exact ins_mem.2 (.inl rfl))
      · exact letQ_mem hu q _ e
    · exact .inl h
theorem take_stable {m : La} (h : Stable m) (t : Int) (w : Bool) : Stable (takeL m t w) := by
  unfold takeL
  split
  · rename_i hm
    split
    · rename_i ht
      intro x q e
      unfold tryB at ht
      simp only [Bool.and_eq_true, decide_eq_true_eq] at ht
      have : (giveL m t w).q = m.q := by unfold giveL; split <;> rfl
      rw [this] at e
      rw [e] at ht; simp at ht
    · rename_i ht
      intro x q e
      show openB m x.2 = false
      have e2 : m.q ++ [(t, w)] = x :: q := e
      cases hq : m.q with
      | nil =>
        rw [hq] at e2; cases e2
        unfold tryB at ht
        rw [hm, hq] at ht
        simpa using ht
      | cons y ys =>
        rw [hq] at e2; cases e2
        exact h _ _ hq
  · exact h
theorem take_self {m : La} {t : Int} (ht : 0 ≤ t) (hn : t ∉ tasks m) (h0 : m.Ok0) (w : Bool) : (t, w) ∈ (takeL m t w).q ∨ (if w = true then (takeL m t w).wr = t else t ∈ (takeL m t w).rd) := by
  have hm : mayB m t = true := by rw [h0.may t ht]; exact decide_eq_true hn
  unfold takeL
  rw [if_pos hm]
  split
  · refine .inr ?_
    unfold giveL
    cases w with
    | true => rfl
    | false => exact ins_mem.2 (.inl rfl)
  · exact .inl (List.mem_append_right _ (by simp))
theorem take_q {m : La} {t : Int} {w : Bool} {x : Wt} (h : x ∈ m.q) : x ∈ (takeL m t w).q := by
  unfold takeL
  split
  · split
    · have : (giveL m t w).q = m.q := by unfold giveL; split <;> rfl
      rw [this]; exact h
    · exact List.mem_append_left _ h
  · exact h
theorem take_rd {m : La} {t u : Int} {w : Bool} (h : u ∈ m.rd) : u ∈ (takeL m t w).rd := by
  unfold takeL
  split
  · split
    · unfold giveL; split
      · exact h
      · exact ins_mem.2 (.inr h)
    · exact h
  · exact h
theorem take_wr {m : La} {t u : Int} {w : Bool} (hu : u ≠ -1) (h : m.wr = u) : (takeL m t w).wr = u := by
  unfold takeL
  split
  · split
    · rename_i ht
      unfold tryB at ht
      simp only [Bool.and_eq_true] at ht
      have := (openB_iff.1 ht.2).1
      omega
    · exact h
  · exact h
theorem take_tasks {m : La} {t u : Int} {w : Bool} (ht : 0 ≤ t) (h : u ∈ tasks (takeL m t w)) : u = t ∨ u ∈ tasks m := by
  unfold takeL at h
  split at h
  · split at h
    · rename_i ht2
      unfold tryB at ht2
      simp only [Bool.and_eq_true] at ht2
      have := (give_tasks ht ht2.2).mem_iff.1 h
      exact List.mem_cons.1 this
    · simp only [tasks, queueL, List.map_append, List.mem_append, List.map_cons, List.map_nil, List.mem_singleton] at h ⊢
      rcases h with h | h | h | h
      · exact .inr (.inl h)
      · exact .inr (.inr (.inl h))
      · exact .inr (.inr (.inr h))
      · exact .inl h
  · exact .inr h
theorem drop_tasks {m : La} {n : Nat} (h0 : m.Ok n) {t u : Int} (ht : 0 ≤ t) (h : u ∈ tasks (dropL m t).2) : u ≠ t ∧ u ∈ tasks m := by
  unfold dropL at h
  rw [if_neg (by omega)] at h
  have hp := leave_tasks h0.toOk0 ht
  have hl : (leaveL m t).Ok0 := (leave_ok h0 ht).toOk0
  have h2 := (letQ_ok (leaveL m t).q (leaveL m t) hl).2.mem_iff.1 h
  rw [show ({ leaveL m t with q := (leaveL m t).q } : La) = leaveL m t from rfl, hp] at h2
  have h3 := List.mem_filter.1 h2
  exact ⟨by simpa using h3.2, h3.1⟩
theorem drop_q {m : La} {t u : Int} {b : Bool} (ht : 0 ≤ t) (hu : u ≠ -1) (hn : u ≠ t) (h : (u, b) ∈ m.q) : (u, b) ∈ (dropL m t).2.q ∨ (if b = true then (dropL m t).2.wr = u else u ∈ (dropL m t).2.rd) := by
  unfold dropL
  rw [if_neg (by omega)]
  exact letQ_mem hu _ _ (List.mem_filter.2 ⟨h, by simpa using hn⟩)
theorem drop_rd {m : La} {t u : Int} (ht : 0 ≤ t) (hn : u ≠ t) (h : u ∈ m.rd) : u ∈ (dropL m t).2.rd := by
  unfold dropL
  rw [if_neg (by omega)]
  exact letQ_rd u _ _ (List.mem_filter.2 ⟨h, by simpa using hn⟩)
theorem drop_wr {m : La} {t u : Int} (ht : 0 ≤ t) (hu : u ≠ -1) (hn : u ≠ t) (h : m.wr = u) : (dropL m t).2.wr = u := by
  unfold dropL
  rw [if_neg (by omega)]
  refine letQ_wr hu _ _ ?_
  show (if m.wr = t then -1 else m.wr) = u
  rw [if_neg (by omega)]; exact h
theorem drop_stable {m : La} {t : Int} (ht : 0 ≤ t) : Stable (dropL m t).2 := by
  unfold dropL
  rw [if_neg (by omega)]
  exact letQ_stable _ _
end Lt
def holdP (p : Ph) : Prop := p = .rd 5 ∨ p = .wr 3 ∨ ∃ a, p = .rm a
def CI (t : Int) (L : Lf) (c : Cl) : Prop := match c.ph with
  | .idle => True
  | .rd 1 => True
  | .rd 2 => L.rt = some t ∧ L.r.st = 1
  | .rd 3 => L.r.st = 2 ∨ (L.r.st = 1 ∧ t ∈ L.ld)
  | .rd 5 => L.r.st = 2 ∧ ((t, false) ∈ L.la.q ∨ t ∈ L.la.rd)
  | .rd _ => False
  | .wr 0 => True
  | .wr 1 => L.rt = some t ∧ L.r.st = 1
  | .wr 2 => L.r.st = 2 ∨ (L.r.st = 1 ∧ t ∈ L.ld)
  | .wr 3 => L.r.st = 2 ∧ ((t, true) ∈ L.la.q ∨ L.la.wr = t)
  | .wr _ => False
  | .rm 1 => L.r.st = 2 ∧ L.la.wr = t ∧ 2 ≤ L.r.nd.es.length ∧ L.cl = 0 ∧ L.s.left < 2
  | .rm 6 => L.r.st = 2 ∧ L.la.wr = t ∧ L.cl = 0 ∧ L.s.left < 2
  | .rm 7 => L.r.st = 2 ∧ L.la.wr = t ∧ L.cl = 1 ∧ L.ct = t ∧ L.s.left < 2
  | .rm 10 => L.r.st = 2 ∧ L.la.wr = t ∧ L.cl = 2 ∧ L.ct = t ∧ L.s.left < 2
  | .rm _ => False
structure Pres (u : Int) (L L' : Lf) : Prop where
  s2 : L.r.st = 2 → L'.r.st = 2
  s1 : L.r.st = 1 → (L'.r.st = 1 ∧ (u ∈ L.ld → u ∈ L'.ld) ∧ L'.rt = L.rt) ∨ (L'.r.st = 2 ∧ L.rt ≠ some u)
  q : ∀ b, (u, b) ∈ L.la.q → (u, b) ∈ L'.la.q ∨ (if b = true then L'.la.wr = u else u ∈ L'.la.rd)
  rd : u ∈ L.la.rd → u ∈ L'.la.rd
  wr : L.la.wr = u → L'.la.wr = u
  w : L.la.wr = u → L.r.st = 2 → L'.cl = L.cl ∧ L'.ct = L.ct ∧ L'.r.nd = L.r.nd
  s : L'.s = L.s
theorem CI.keep {u : Int} {L L' : Lf} {c : Cl} (p : Pres u L L') (h : CI u L c) : CI u L' c := by
  unfold CI at h ⊢
  split
  · trivial
  · trivial
  · rename_i e; rw [e] at h
    rcases p.s1 h.2 with ⟨h1, _, h3⟩ | ⟨_, h2⟩
    · exact ⟨by rw [h3]; exact h.1, h1⟩
    · exact absurd h.1 h2
  · rename_i e; rw [e] at h
    rcases h with h | ⟨h, hl⟩
    · exact .inl (p.s2 h)
    · rcases p.s1 h with ⟨h1, h2, _⟩ | ⟨h2, _⟩
      · exact .inr ⟨h1, h2 hl⟩
      · exact .inl h2
  · rename_i e; rw [e] at h
    refine ⟨p.s2 h.1, ?_⟩
    rcases h.2 with h2 | h2
    · exact p.q false h2
    · exact .inr (p.rd h2)
  · rename_i e1 e2 e3 e4 e; rw [e] at h
    split at h <;> simp_all
  · trivial
  · rename_i e; rw [e] at h
    rcases p.s1 h.2 with ⟨h1, _, h3⟩ | ⟨_, h2⟩
    · exact ⟨by rw [h3]; exact h.1, h1⟩
    · exact absurd h.1 h2
  · rename_i e; rw [e] at h
    rcases h with h | ⟨h, hl⟩
    · exact .inl (p.s2 h)
    · rcases p.s1 h with ⟨h1, h2, _⟩ | ⟨h2, _⟩
      · exact .inr ⟨h1, h2 hl⟩
      · exact .inl h2
  · rename_i e; rw [e] at h
    refine ⟨p.s2 h.1, ?_⟩
    rcases h.2 with h2 | h2
    · exact p.q true h2
    · exact .inr (p.wr h2)
  · rename_i e1 e2 e3 e4 e; rw [e] at h
    split at h <;> simp_all
  · rename_i e; rw [e] at h
    obtain ⟨h1, h2, h3⟩ := p.w h.2.1 h.1
    exact ⟨p.s2 h.1, p.wr h.2.1, by rw [h3]; exact h.2.2.1, by rw [h1]; exact h.2.2.2.1, by rw [p.s]; exact h.2.2.2.2⟩
  · rename_i e; rw [e] at h
    obtain ⟨h1, h2, h3⟩ := p.w h.2.1 h.1
    exact ⟨p.s2 h.1, p.wr h.2.1, by rw [h1]; exact h.2.2.1, by rw [p.s]; exact h.2.2.2⟩
  · rename_i e; rw [e] at h
    obtain ⟨h1, h2, h3⟩ := p.w h.2.1 h.1
    exact ⟨p.s2 h.1, p.wr h.2.1, by rw [h1]; exact h.2.2.1, by rw [h2]; exact h.2.2.2.1, by rw [p.s]; exact h.2.2.2.2⟩
  · rename_i e; rw [e] at h
    obtain ⟨h1, h2, h3⟩ := p.w h.2.1 h.1
    exact ⟨p.s2 h.1, p.wr h.2.1, by rw [h1]; exact h.2.2.1, by rw [h2]; exact h.2.2.2.1, by rw [p.s]; exact h.2.2.2.2⟩
  · rename_i e1 e2 e3 e4 e; rw [e] at h
    split at h <;> simp_all
def OpsOk (c : Cl) : Prop := ∀ o ∈ c.ops, o.Ok ∧ (o.kind = 1 ∨ o.kind = 3 ∨ o.kind = 4)
structure Inv0 (m : HM) : Prop where
  ops : ∀ c ∈ m.cs, OpsOk c ∧ c.nx ≤ c.ops.length ∧ (c.ph ≠ .idle → c.nx < c.ops.length)
  lok : m.L.Ok
  la : ∃ n, m.L.la.Ok n
  sb : Lt.Stable m.L.la
  n8 : m.cs.length ≤ 8
  ci : ∀ (t : Nat) (c : Cl), m.cs[t]? = some c → CI (t : Int) m.L c
  ld0 : m.L.r.st ≠ 1 → m.L.ld = []
  ldc : ∀ u ∈ m.L.ld, ∃ (t : Nat) (c : Cl), u = (t : Int) ∧ m.cs[t]? = some c ∧ (c.ph = .rd 3 ∨ c.ph = .wr 2)
  ldr : m.L.r.st = 1 → ∃ (t : Nat) (c : Cl), m.cs[t]? = some c ∧ (c.ph = .rd 2 ∨ c.ph = .wr 1)
  tk : ∀ u ∈ Lt.tasks m.L.la, ∃ (t : Nat) (c : Cl), u = (t : Int) ∧ m.cs[t]? = some c ∧ holdP c.ph
  cl0 : (∀ (t : Nat) (c : Cl), m.cs[t]? = some c → ∀ a, c.ph ≠ .rm a) → m.L.cl = 0
theorem CI.hold {t : Int} {L : Lf} {c : Cl} (h : CI t L c) (hh : holdP c.ph) : L.r.st = 2 := by
  unfold CI at h
  rcases hh with e | e | ⟨a, e⟩
  · rw [e] at h; exact h.1
  · rw [e] at h; exact h.1
  · rw [e] at h
    split at h <;> first | exact h.1 | (exact h.elim) | simp_all
theorem Inv0.hold2 {m : HM} (h : Inv0 m) {u : Int} (hu : u ∈ Lt.tasks m.L.la) : m.L.r.st = 2 := by
  obtain ⟨t, c, _, hc, hp⟩ := h.tk u hu
  exact (h.ci t c hc).hold hp
theorem wr_tasks {m : Lt.La} {u : Int} (hu : 0 ≤ u) (h : m.wr = u) : u ∈ Lt.tasks m := by
  unfold Lt.tasks
  rw [h, if_pos hu]; simp
theorem Inv0.mk' {m : HM} (h : Inv0 m) {t : Nat} {c : Cl} (hc : m.cs[t]? = some c) {L' : Lf} {c' : Cl} {b : Bool} {evs : List Evt} (e : stepC (t : Int) m.L c = (L', c', b, evs)) (hpre : preC (t : Int) m.L c)
    (hP : ∀ u : Int, u ≠ (t : Int) → 0 ≤ u → Pres u m.L L') (hL : L'.Ok) (hla : ∃ n, L'.la.Ok n) (hsb : Lt.Stable L'.la) (hci : CI (t : Int) L' c') (hld0 : L'.r.st ≠ 1 → L'.ld = [])
    (hldc : ∀ u ∈ L'.ld, (u = (t : Int) ∧ (c'.ph = .rd 3 ∨ c'.ph = .wr 2)) ∨ (u ∈ m.L.ld ∧ u ≠ (t : Int)))
    (hldr : L'.r.st = 1 → (c'.ph = .rd 2 ∨ c'.ph = .wr 1) ∨ (m.L.r.st = 1 ∧ c.ph ≠ .rd 2 ∧ c.ph ≠ .wr 1))
    (htk : ∀ u ∈ Lt.tasks L'.la, (u = (t : Int) ∧ holdP c'.ph) ∨ (u ∈ Lt.tasks m.L.la ∧ u ≠ (t : Int)))
    (hcl0 : L'.cl = 0 ∨ (∃ a, c'.ph = .rm a) ∨ (L'.cl = m.L.cl ∧ ∀ a, c.ph ≠ .rm a)) : Inv0 (m.client t) := by
  have hm : m.client t = { m with L := L', cs := m.cs.set t c', sq := seqN b m.sq, ev := m.ev ++ evs } := by unfold HM.client; rw [hc]; dsimp only; rw [e]
  have hlt := (List.getElem?_eq_some_iff.1 hc).1
  have hself : (m.cs.set t c')[t]? = some c' := List.getElem?_set_self hlt
  have hoth : ∀ u, u ≠ t → (m.cs.set t c')[u]? = m.cs[u]? := fun u hu => List.getElem?_set_ne (Ne.symm hu)
  have hop := h.ops c (List.mem_of_getElem? hc)
  have ho' : c'.ops = c.ops := by have := stepC_ops (t : Int) m.L c; rw [e] at this; exact this
  have hn' := stepC_nx hpre hop.2.2
  rw [e] at hn'
  rw [hm]
  refine ⟨fun d hd => ?_, hL, hla, hsb, by show (m.cs.set t c').length ≤ 8; rw [List.length_set]; exact h.n8, fun u d hd => ?_, hld0, fun u hu => ?_, fun h1 => ?_, fun u hu => ?_, fun hno => ?_⟩
  · rcases List.mem_or_eq_of_mem_set hd with e1 | e1
    · exact h.ops d e1
    · subst e1
      exact ⟨by unfold OpsOk; rw [ho']; exact hop.1, by rw [ho']; exact hn'.1, by rw [ho']; exact hn'.2⟩
  · by_cases e1 : u = t
    · subst e1
      have : (m.cs.set u c')[u]? = some d := hd
      rw [hself] at this; cases this; exact hci
    · have : (m.cs.set t c')[u]? = some d := hd
      rw [hoth u e1] at this
      exact (h.ci u d this).keep (hP _ (by omega) (by omega))
  · rcases hldc u hu with ⟨rfl, h2⟩ | ⟨h2, h3⟩
    · exact ⟨t, c', rfl, hself, h2⟩
    · obtain ⟨v, d, rfl, hd, hp⟩ := h.ldc u h2
      exact ⟨v, d, rfl, by show (m.cs.set t c')[v]? = _; rw [hoth v (by omega)]; exact hd, hp⟩
  · rcases hldr h1 with h2 | ⟨h2, h3, h4⟩
    · exact ⟨t, c', hself, h2⟩
    · obtain ⟨v, d, hd, hp⟩ := h.ldr h2
      have hv : v ≠ t := fun e1 => by
        subst e1; rw [hc] at hd; cases hd
        rcases hp with hp | hp
        · exact h3 hp
        · exact h4 hp
      exact ⟨v, d, by show (m.cs.set t c')[v]? = _; rw [hoth v hv]; exact hd, hp⟩
  · rcases htk u hu with ⟨rfl, h2⟩ | ⟨h2, h3⟩
    · exact ⟨t, c', rfl, hself, h2⟩
    · obtain ⟨v, d, rfl, hd, hp⟩ := h.tk u h2
      exact ⟨v, d, rfl, by show (m.cs.set t c')[v]? = _; rw [hoth v (by omega)]; exact hd, hp⟩
  · show L'.cl = 0
    rcases hcl0 with h2 | ⟨a, h2⟩ | ⟨h2, h3⟩
    · exact h2
    · exact absurd h2 (hno t c' hself a)
    · rw [h2]
      refine h.cl0 (fun v d hd a => ?_)
      by_cases e1 : v = t
      · subst e1; rw [hc] at hd; cases hd; exact h3 a
      · exact hno v d (by show (m.cs.set t c')[v]? = _; rw [hoth v e1]; exact hd) a
theorem Pres.refl (u : Int) (L : Lf) : Pres u L L := ⟨id, fun h => .inl ⟨h, id, rfl⟩, fun _ h => .inl h, id, id, fun _ _ => ⟨rfl, rfl, rfl⟩, rfl⟩
theorem Inv0.nh {m : HM} (h : Inv0 m) {t : Nat} {c : Cl} (hc : m.cs[t]? = some c) (hn : ¬ holdP c.ph) : ∀ u ∈ Lt.tasks m.L.la, u ≠ (t : Int) := fun u hu e => by
  obtain ⟨v, d, h1, h2, h3⟩ := h.tk u hu
  have : v = t := by omega
  subst this; rw [hc] at h2; cases h2; exact hn h3
theorem Inv0.nl {m : HM} (h : Inv0 m) {t : Nat} {c : Cl} (hc : m.cs[t]? = some c) (h1 : c.ph ≠ .rd 3) (h2 : c.ph ≠ .wr 2) : ∀ u ∈ m.L.ld, u ≠ (t : Int) := fun u hu e => by
  obtain ⟨v, d, e1, e2, e3⟩ := h.ldc u hu
  have : v = t := by omega
  subst this; rw [hc] at e2; cases e2
  rcases e3 with e3 | e3
  · exact h1 e3
  · exact h2 e3
theorem Lf.Ok.st3 {L : Lf} (h : L.Ok) : L.r.st = 0 ∨ L.r.st = 1 ∨ L.r.st = 2 := by
  rcases h.st with e | e | e
  · left; rw [e]; rfl
  · exact .inr (.inl e.1)
  · exact .inr (.inr e.1)
theorem pin_pres (u : Int) (L : Lf) (t : Int) : Pres u L (L.pin t).2 := by
  unfold Lf.pin
  split
  · rename_i h0
    exact ⟨fun h => by omega, fun h => by omega, fun _ h => .inl h, id, id, fun _ h => by omega, rfl⟩
  · split
    · rename_i h0 h2
      exact ⟨id, fun h => by omega, fun _ h => .inl h, id, id, fun _ _ => ⟨rfl, rfl, rfl⟩, rfl⟩
    · exact ⟨id, fun h => .inl ⟨h, fun h => List.mem_append_left _ h, rfl⟩, fun _ h => .inl h, id, id, fun _ _ => ⟨rfl, rfl, rfl⟩, rfl⟩
end Go.Proofs.YtloldofjddbjoaaGreat
