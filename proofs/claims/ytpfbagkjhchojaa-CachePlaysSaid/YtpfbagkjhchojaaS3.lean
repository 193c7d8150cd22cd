/- Operations that yield a value and leave the world: one rule each. Over any program. -/
import Derived.Test.YtpfbagkjhchojaaS2
import Derived.IntWalk
set_option linter.unusedVariables false
set_option linter.unusedSimpArgs false
namespace Go.Sep
section
variable {P : Program} {n : Nat} {L : Env} {X : World → Prop} {o : Oper}

theorem QOp.mk {v : Value} (s : Act → Sem Value) (he : ∀ a, execOp a.eval o = (do pure (.value (← s a)))) (h : ∀ a w, Know n L a → X w → (s a).run P w = .ok v w) : QOp P n L X o v := fun a w k x => by
  rw [he]; simp [h a w k x]
theorem QOp.sub {X' : World → Prop} {v : Value} (h : QOp P n L X o v) (s : ∀ w, X' w → X w) : QOp P n L X' o v := fun a w k x => h a w k (s w x)

theorem q_move {x : Operand} {v : Value} (ho : o.op = .move x) (h : ev L x = some v) : QOp P n L X o v := fun a w k hx => by
  simp only [execOp, ho, k.eval h]; rfl
theorem q_assign {x : Operand} {v : Value} (ho : o.op = .assign x) (h : ev L x = some v) : QOp P n L X o v := fun a w k hx => by
  simp only [execOp, ho, k.eval h]; rfl
theorem q_pick_t {c x y : Operand} {v : Value} (ho : o.op = .pick c x y) (hc : ev L c = some (.bool true)) (h : ev L x = some v) : QOp P n L X o v := fun a w k hx => by
  simp [execOp, ho, k.eval h, k.eval hc, asBool]
theorem q_pick_f {c x y : Operand} {v : Value} (ho : o.op = .pick c x y) (hc : ev L c = some (.bool false)) (h : ev L y = some v) : QOp P n L X o v := fun a w k hx => by
  simp [execOp, ho, k.eval h, k.eval hc, asBool]

/-! ### Numbers -/
theorem q_bin {op : BinOp} {t u : TypeId} {x y : Operand} {vx vy v : Value} (ho : o.op = .binOp op t x y u) (hx : ev L x = some vx) (hy : ev L y = some vy)
    (hr : ∀ w, X w → (do eqGuard op t x y vx vy; binOp op t vx vy : Sem Value).run P w = .ok v w) : QOp P n L X o v := fun a w k x => by
  have h0 := hr w x
  simp only [execOp, ho, k.eval hx, k.eval hy]
  rw [Sem.run_bind, h0]
  rfl
theorem wrap64_in {z : Int} (h : -9223372036854775808 ≤ z ∧ z ≤ 9223372036854775807) : IntKind.i64.wrap z = z := by
  rw [IntKind.wrap_i64]; omega
theorem wrapu8_in {z : Int} (h : 0 ≤ z ∧ z ≤ 255) : IntKind.u8.wrap z = z := by
  simp only [IntKind.wrap, IntKind.signed, IntKind.bits, Bool.false_and, Bool.false_eq_true, if_false]; omega
theorem wrapu16_in {z : Int} (h : 0 ≤ z ∧ z ≤ 65535) : IntKind.u16.wrap z = z := by
  simp only [IntKind.wrap, IntKind.signed, IntKind.bits, Bool.false_and, Bool.false_eq_true, if_false]; omega
theorem wrapu64_in {z : Int} (h : 0 ≤ z ∧ z ≤ 18446744073709551615) : IntKind.u64.wrap z = z := by
  simp only [IntKind.wrap, IntKind.signed, IntKind.bits, Bool.false_and, Bool.false_eq_true, if_false]; omega
theorem guardInt {op : BinOp} {t : TypeId} {x y : Operand} {j k : IntKind} {p q : Int} (w : World) : (eqGuard op t x y (.int j p) (.int k q)).run P w = .ok () w := by
  cases op <;> rfl
theorem q_add {t u : TypeId} {x y : Operand} {k : IntKind} {p q : Int} (ho : o.op = .binOp .add t x y u) (hx : ev L x = some (.int k p)) (hy : ev L y = some (.int k q)) : QOp P n L X o (.int k (k.wrap (p + q))) :=
  q_bin ho hx hy (fun w _ => by rw [Sem.run_bind, guardInt]; simp [binOp, Op.intArith])
theorem q_sub {t u : TypeId} {x y : Operand} {k : IntKind} {p q : Int} (ho : o.op = .binOp .sub t x y u) (hx : ev L x = some (.int k p)) (hy : ev L y = some (.int k q)) : QOp P n L X o (.int k (k.wrap (p - q))) :=
  q_bin ho hx hy (fun w _ => by rw [Sem.run_bind, guardInt]; simp [binOp, Op.intArith])
theorem q_mul {t u : TypeId} {x y : Operand} {k : IntKind} {p q : Int} (ho : o.op = .binOp .mul t x y u) (hx : ev L x = some (.int k p)) (hy : ev L y = some (.int k q)) : QOp P n L X o (.int k (k.wrap (p * q))) :=
  q_bin ho hx hy (fun w _ => by rw [Sem.run_bind, guardInt]; simp [binOp, Op.intArith])
theorem q_add64 {t u : TypeId} {x y : Operand} {p q : Int} (ho : o.op = .binOp .add t x y u) (hx : ev L x = some (.int .i64 p)) (hy : ev L y = some (.int .i64 q)) (hb : -9223372036854775808 ≤ p + q ∧ p + q ≤ 9223372036854775807) : QOp P n L X o (.int .i64 (p + q)) := by
  have := q_add (P := P) (n := n) (X := X) ho hx hy; rwa [wrap64_in hb] at this
theorem q_sub64 {t u : TypeId} {x y : Operand} {p q : Int} (ho : o.op = .binOp .sub t x y u) (hx : ev L x = some (.int .i64 p)) (hy : ev L y = some (.int .i64 q)) (hb : -9223372036854775808 ≤ p - q ∧ p - q ≤ 9223372036854775807) : QOp P n L X o (.int .i64 (p - q)) := by
  have := q_sub (P := P) (n := n) (X := X) ho hx hy; rwa [wrap64_in hb] at this
theorem q_mul64 {t u : TypeId} {x y : Operand} {p q : Int} (ho : o.op = .binOp .mul t x y u) (hx : ev L x = some (.int .i64 p)) (hy : ev L y = some (.int .i64 q)) (hb : -9223372036854775808 ≤ p * q ∧ p * q ≤ 9223372036854775807) : QOp P n L X o (.int .i64 (p * q)) := by
  have := q_mul (P := P) (n := n) (X := X) ho hx hy; rwa [wrap64_in hb] at this
/-- A counter, one on: as a natural number. -/
theorem q_inc {t u : TypeId} {x y : Operand} {p : Nat} (ho : o.op = .binOp .add t x y u) (hx : ev L x = some (.int .i64 (p : Int))) (hy : ev L y = some (.int .i64 1)) (hb : p < 9223372036854775807) : QOp P n L X o (.int .i64 ((p + 1 : Nat) : Int)) := by
  have := q_add64 (P := P) (n := n) (X := X) ho hx hy (by omega)
  exact this
theorem q_rem {t u : TypeId} {x y : Operand} {k : IntKind} {p q : Int} (ho : o.op = .binOp .rem t x y u) (hx : ev L x = some (.int k p)) (hy : ev L y = some (.int k q)) (hq : q ≠ 0) : QOp P n L X o (.int k (p.tmod q)) :=
  q_bin ho hx hy (fun w _ => by rw [Sem.run_bind, guardInt]; simp [binOp, Op.intDiv, hq])
theorem q_rem_nn {t u : TypeId} {x y : Operand} {k : IntKind} {p q : Int} (ho : o.op = .binOp .rem t x y u) (hx : ev L x = some (.int k p)) (hy : ev L y = some (.int k q)) (hp : 0 ≤ p) (hq : q ≠ 0) : QOp P n L X o (.int k (p % q)) := by
  have := q_rem (P := P) (n := n) (X := X) ho hx hy hq
  rwa [Int.tmod_eq_emod_of_nonneg hp] at this
theorem q_quo {t u : TypeId} {x y : Operand} {k : IntKind} {p q : Int} (ho : o.op = .binOp .quo t x y u) (hx : ev L x = some (.int k p)) (hy : ev L y = some (.int k q)) (hq : q ≠ 0) : QOp P n L X o (.int k (k.wrap (p.tdiv q))) :=
  q_bin ho hx hy (fun w _ => by rw [Sem.run_bind, guardInt]; simp [binOp, Op.intDiv, hq])
theorem q_quo_nn {t u : TypeId} {x y : Operand} {p q : Int} (ho : o.op = .binOp .quo t x y u) (hx : ev L x = some (.int .i64 p)) (hy : ev L y = some (.int .i64 q)) (hp : 0 ≤ p) (hq : 0 < q) (hb : p ≤ 9223372036854775807) : QOp P n L X o (.int .i64 (p / q)) := by
  have := q_quo (P := P) (n := n) (X := X) ho hx hy (by omega)
  have h1 : p / q ≤ p := Int.ediv_le_self q hp
  have h2 : 0 ≤ p / q := Int.ediv_nonneg hp (by omega)
  rw [Int.tdiv_eq_ediv_of_nonneg hp, wrap64_in (by omega)] at this
  exact this
theorem q_eql {t u : TypeId} {x y : Operand} {k : IntKind} {p q : Int} (ho : o.op = .binOp .eql t x y u) (hx : ev L x = some (.int k p)) (hy : ev L y = some (.int k q)) : QOp P n L X o (.bool (decide (p = q))) :=
  q_bin ho hx hy (fun w _ => by rw [Sem.run_bind, guardInt]; simp [binOp, Op.intCmp]; rfl)
theorem q_neq {t u : TypeId} {x y : Operand} {k : IntKind} {p q : Int} (ho : o.op = .binOp .neq t x y u) (hx : ev L x = some (.int k p)) (hy : ev L y = some (.int k q)) : QOp P n L X o (.bool (!decide (p = q))) :=
  q_bin ho hx hy (fun w _ => by rw [Sem.run_bind, guardInt]; simp [binOp, Op.intCmp]; rfl)
theorem q_lss {t u : TypeId} {x y : Operand} {k : IntKind} {p q : Int} (ho : o.op = .binOp .lss t x y u) (hx : ev L x = some (.int k p)) (hy : ev L y = some (.int k q)) : QOp P n L X o (.bool (decide (p < q))) :=
  q_bin ho hx hy (fun w _ => by rw [Sem.run_bind, guardInt]; simp [binOp, Op.intCmp])
theorem q_leq {t u : TypeId} {x y : Operand} {k : IntKind} {p q : Int} (ho : o.op = .binOp .leq t x y u) (hx : ev L x = some (.int k p)) (hy : ev L y = some (.int k q)) : QOp P n L X o (.bool (decide (p ≤ q))) :=
  q_bin ho hx hy (fun w _ => by rw [Sem.run_bind, guardInt]; simp [binOp, Op.intCmp])
theorem q_gtr {t u : TypeId} {x y : Operand} {k : IntKind} {p q : Int} (ho : o.op = .binOp .gtr t x y u) (hx : ev L x = some (.int k p)) (hy : ev L y = some (.int k q)) : QOp P n L X o (.bool (decide (q < p))) :=
  q_bin ho hx hy (fun w _ => by rw [Sem.run_bind, guardInt]; simp [binOp, Op.intCmp])
theorem q_geq {t u : TypeId} {x y : Operand} {k : IntKind} {p q : Int} (ho : o.op = .binOp .geq t x y u) (hx : ev L x = some (.int k p)) (hy : ev L y = some (.int k q)) : QOp P n L X o (.bool (decide (q ≤ p))) :=
  q_bin ho hx hy (fun w _ => by rw [Sem.run_bind, guardInt]; simp [binOp, Op.intCmp])
theorem q_conv {s t : TypeId} {x : Operand} {j k : IntKind} {p : Int} (ho : o.op = .convert s t x) (hs : P.underlying s = some (.int j)) (ht : P.underlying t = some (.int k)) (hx : ev L x = some (.int j p)) : QOp P n L X o (.int k (k.wrap p)) :=
  QOp.mk (fun a => convert s t (a.eval x)) (fun a => by simp [execOp, ho]) (fun a w hk _ => by
    rw [hk.eval hx]; simp [convert, underlying, hs, ht, Conv.intToInt])
theorem q_conv_in {s t : TypeId} {x : Operand} {j k : IntKind} {p : Int} (ho : o.op = .convert s t x) (hs : P.underlying s = some (.int j)) (ht : P.underlying t = some (.int k)) (hx : ev L x = some (.int j p)) (hw : k.wrap p = p) : QOp P n L X o (.int k p) := by
  have := q_conv (P := P) (n := n) (X := X) ho hs ht hx; rwa [hw] at this
theorem q_not {t : TypeId} {x : Operand} {b : Bool} (ho : o.op = .unOp .not t x) (hx : ev L x = some (.bool b)) : QOp P n L X o (.bool (!b)) :=
  QOp.mk (fun a => Op.unary .not (a.eval x)) (fun a => by simp [execOp, ho]) (fun a w hk _ => by rw [hk.eval hx]; simp [Op.unary])
theorem q_neg {t : TypeId} {x : Operand} {k : IntKind} {p : Int} (ho : o.op = .unOp .neg t x) (hx : ev L x = some (.int k p)) : QOp P n L X o (.int k (k.wrap (0 - p))) :=
  QOp.mk (fun a => Op.unary .neg (a.eval x)) (fun a => by simp [execOp, ho]) (fun a w hk _ => by rw [hk.eval hx]; simp [Op.unary, Op.intArith])
theorem q_max {x y : Operand} {ts : Array TypeId} {k j : IntKind} {p q : Int} (ho : o.op = .call ⟨.builtin .max, #[x, y], ts⟩) (hx : ev L x = some (.int k p)) (hy : ev L y = some (.int j q)) : QOp P n L X o (.int k (if q > p then q else p)) := fun a w hk _ => by
  simp [execOp, ho, resolve, invoke, builtin, hk.eval hx, hk.eval hy, Builtin.max_, Builtin.max2, Result.andThen]
theorem q_min {x y : Operand} {ts : Array TypeId} {k j : IntKind} {p q : Int} (ho : o.op = .call ⟨.builtin .min, #[x, y], ts⟩) (hx : ev L x = some (.int k p)) (hy : ev L y = some (.int j q)) : QOp P n L X o (.int k (if q < p then q else p)) := fun a w hk _ => by
  simp [execOp, ho, resolve, invoke, builtin, hk.eval hx, hk.eval hy, Builtin.min_, Builtin.min2, Result.andThen]

/-! ### Bools, strings, nil -/
theorem run_und {t : TypeId} {d : TypeDesc} (h : P.underlying t = some d) (w : World) : (underlying t).run P w = .ok d w := by simp [underlying, h]
theorem run_equal {t : TypeId} {x y : Value} {b : Bool} (w : World) (h : ∀ d, (Op.equalIn (d + 1) t x y).run P w = .ok b w) : (Op.equal t x y).run P w = .ok b w := h 9999
theorem run_eqb {t : TypeId} {p q : Bool} (ht : P.underlying t = some .bool) (w : World) : (Op.equal t (.bool p) (.bool q)).run P w = .ok (p == q) w :=
  run_equal w (fun d => by unfold Op.equalIn; simp [run_und ht])
theorem run_eqp {t e : TypeId} {p : Option Addr} (ht : P.underlying t = some (.pointer e)) (w : World) : (Op.equal t (.pointer p) (.pointer none)).run P w = .ok p.isNone w :=
  run_equal w (fun d => by unfold Op.equalIn; cases p <;> simp [run_und ht])
theorem run_eqsl {t e : TypeId} {p : Option Addr} {l c l' c' : Nat} (ht : P.underlying t = some (.slice e)) (w : World) : (Op.equal t (.slice p l c) (.slice none l' c')).run P w = .ok p.isNone w :=
  run_equal w (fun d => by unfold Op.equalIn; cases p <;> simp [run_und ht])
theorem bin_eq {t : TypeId} {x y : Value} {b : Bool} (w : World) (hb : binOp .eql t x y = (do pure (.bool (← Op.equal t x y)))) (h : (Op.equal t x y).run P w = .ok b w) : (binOp .eql t x y).run P w = .ok (.bool b) w := by
  rw [hb]; simp [h]
theorem bin_ne {t : TypeId} {x y : Value} {b : Bool} (w : World) (hb : binOp .neq t x y = (do pure (.bool (!(← Op.equal t x y))))) (h : (Op.equal t x y).run P w = .ok b w) : (binOp .neq t x y).run P w = .ok (.bool (!b)) w := by
  rw [hb]; simp [h]
theorem run_both {α : Type} {x : Sem Unit} {y : Sem α} {v : α} {w : World} (hx : x.run P w = .ok () w) (hy : y.run P w = .ok v w) : (do x; y : Sem α).run P w = .ok v w := by
  rw [Sem.run_bind, hx]; exact hy
theorem q_eqb {t u : TypeId} {x y : Operand} {p q : Bool} (ho : o.op = .binOp .eql t x y u) (ht : P.underlying t = some .bool) (hx : ev L x = some (.bool p)) (hy : ev L y = some (.bool q)) : QOp P n L X o (.bool (p == q)) :=
  q_bin ho hx hy (fun w _ => run_both rfl (bin_eq w rfl (run_eqb ht w)))
theorem q_neb {t u : TypeId} {x y : Operand} {p q : Bool} (ho : o.op = .binOp .neq t x y u) (ht : P.underlying t = some .bool) (hx : ev L x = some (.bool p)) (hy : ev L y = some (.bool q)) : QOp P n L X o (.bool (!(p == q))) :=
  q_bin ho hx hy (fun w _ => run_both rfl (bin_ne w rfl (run_eqb ht w)))
theorem q_eqs {t u : TypeId} {x y : Operand} {p q : ByteArray} (ho : o.op = .binOp .eql t x y u) (hx : ev L x = some (.string p)) (hy : ev L y = some (.string q)) : QOp P n L X o (.bool (p.toList == q.toList)) :=
  q_bin ho hx hy (fun w _ => by simp [eqGuard, binOp, Op.stringOp])
theorem q_nes {t u : TypeId} {x y : Operand} {p q : ByteArray} (ho : o.op = .binOp .neq t x y u) (hx : ev L x = some (.string p)) (hy : ev L y = some (.string q)) : QOp P n L X o (.bool (!(p.toList == q.toList))) :=
  q_bin ho hx hy (fun w _ => by simp [eqGuard, binOp, Op.stringOp])
theorem q_eqp {t u e : TypeId} {x y : Operand} {p : Option Addr} (ho : o.op = .binOp .eql t x y u) (ht : P.underlying t = some (.pointer e)) (hx : ev L x = some (.pointer p)) (hy : ev L y = some (.pointer none)) : QOp P n L X o (.bool p.isNone) :=
  q_bin ho hx hy (fun w _ => run_both rfl (bin_eq w rfl (run_eqp ht w)))
theorem q_nep {t u e : TypeId} {x y : Operand} {p : Option Addr} (ho : o.op = .binOp .neq t x y u) (ht : P.underlying t = some (.pointer e)) (hx : ev L x = some (.pointer p)) (hy : ev L y = some (.pointer none)) : QOp P n L X o (.bool (!p.isNone)) :=
  q_bin ho hx hy (fun w _ => run_both rfl (bin_ne w rfl (run_eqp ht w)))
theorem q_eqsl {t u e : TypeId} {x y : Operand} {p : Option Addr} {l c l' c' : Nat} (ho : o.op = .binOp .eql t x y u) (ht : P.underlying t = some (.slice e)) (hx : ev L x = some (.slice p l c)) (hy : ev L y = some (.slice none l' c')) : QOp P n L X o (.bool p.isNone) :=
  q_bin ho hx hy (fun w _ => run_both rfl (bin_eq w rfl (run_eqsl ht w)))
theorem q_nesl {t u e : TypeId} {x y : Operand} {p : Option Addr} {l c l' c' : Nat} (ho : o.op = .binOp .neq t x y u) (ht : P.underlying t = some (.slice e)) (hx : ev L x = some (.slice p l c)) (hy : ev L y = some (.slice none l' c')) : QOp P n L X o (.bool (!p.isNone)) :=
  q_bin ho hx hy (fun w _ => run_both rfl (bin_ne w rfl (run_eqsl ht w)))

/-! ### Parts -/
theorem q_extract {x : Operand} {i : Nat} {vs : List Value} {v : Value} (ho : o.op = .extract x i) (hx : ev L x = some (.tuple vs.toArray)) (h : vs[i]? = some v) : QOp P n L X o v :=
  QOp.mk (fun a => Instr.extract (a.eval x) i) (fun a => by simp [execOp, ho]) (fun a w hk _ => by rw [hk.eval hx]; simp [Instr.extract, h])
theorem q_nilCheck {x : Operand} {p : Addr} (ho : o.op = .nilCheck x) (hx : ev L x = some (.pointer (some p))) : QOp P n L X o (.pointer (some p)) := fun a w hk _ => by
  simp only [execOp, ho, hk.eval hx]; rfl
theorem q_nilCheckF {x : Operand} {f : FuncId} {p q : Array Value} (ho : o.op = .nilCheck x) (hx : ev L x = some (.func (.func f) p q)) : QOp P n L X o (.func (.func f) p q) := fun a w hk _ => by
  simp only [execOp, ho, hk.eval hx]; rfl
theorem add_none (b f m : Nat) : Addr.add ⟨b, f, none⟩ m = ⟨b, f + m, none⟩ := by
  unfold Addr.add; split
  · next h => subst h; rfl
  · rfl
theorem q_fieldAddr {s : TypeId} {x : Operand} {i b off : Nat} {fs : List Field} {f : Field} {sz : Nat} (ho : o.op = .fieldAddr s x i) (hs : P.underlying s = some (.struct fs.toArray)) (hf : fs[i]? = some f) (hz : ∀ w, (sizeOf f.type).run P w = .ok sz w) (hnz : sz.beq 0 = false)
    (hx : ev L x = some (.pointer (some ⟨b, off, none⟩))) : QOp P n L X o (.pointer (some ⟨b, off + f.offset, none⟩)) :=
  QOp.mk (fun a => Instr.fieldAt s (a.eval x) i) (fun a => by simp [execOp, ho]) (fun a w hk _ => by
    have : sz ≠ 0 := fun e => by subst e; cases hnz
    rw [hk.eval hx]; simp [Instr.fieldAt, run_und hs, hf, Instr.sureAddr, fieldPlace, hz, this, add_none])
theorem q_indexAddr {t e : TypeId} {x i : Operand} {b off len cap sz : Nat} {k : IntKind} {p : Int} (j : Nat) (ho : o.op = .indexAddr t x i) (ht : P.underlying t = some (.slice e)) (hz : ∀ w, (sizeOf e).run P w = .ok sz w)
    (hx : ev L x = some (.slice (some ⟨b, off, none⟩) len cap)) (hi : ev L i = some (.int k p)) (hp : p = (j : Int)) (hj : j < len) : QOp P n L X o (.pointer (some ⟨b, off + j * sz, none⟩)) :=
  QOp.mk (fun a => Instr.indexAt t (a.eval x) (a.eval i)) (fun a => by simp [execOp, ho]) (fun a w hk _ => by
    subst hp
    have h1 : (0 : Int) ≤ (j : Int) ∧ (j : Int) < (len : Int) := by omega
    rw [hk.eval hx, hk.eval hi]; simp [Instr.indexAt, asIntOf, run_und ht, hz, hj, add_none])
theorem q_indexArr {t e : TypeId} {x i : Operand} {b off len sz : Nat} {k : IntKind} {p : Int} (j : Nat) (ho : o.op = .indexAddr t x i) (ht : P.underlying t = some (.array len e)) (hz : ∀ w, (sizeOf e).run P w = .ok sz w)
    (hx : ev L x = some (.pointer (some ⟨b, off, none⟩))) (hi : ev L i = some (.int k p)) (hp : p = (j : Int)) (hj : j < len) : QOp P n L X o (.pointer (some ⟨b, off + j * sz, none⟩)) :=
  QOp.mk (fun a => Instr.indexAt t (a.eval x) (a.eval i)) (fun a => by simp [execOp, ho]) (fun a w hk _ => by
    subst hp
    have h1 : (0 : Int) ≤ (j : Int) ∧ (j : Int) < (len : Int) := by omega
    rw [hk.eval hx, hk.eval hi]; simp [Instr.indexAt, asIntOf, run_und ht, hz, hj, Instr.sureAddr, add_none])
theorem q_field {t : TypeId} {x : Operand} {i : Nat} {fs : List Field} {f : Field} {cs : List Value} {v : Value} (ho : o.op = .field t x i) (hs : P.underlying t = some (.struct fs.toArray)) (hf : fs[i]? = some f) (hg : ∀ w, (isAgg f.type).run P w = .ok false w)
    (hx : ev L x = some (.agg cs.toArray)) (h : cs[f.offset]? = some v) : QOp P n L X o v :=
  QOp.mk (fun a => Instr.field t (a.eval x) i) (fun a => by simp [execOp, ho]) (fun a w hk _ => by
    rw [hk.eval hx]; simp [Instr.field, run_und hs, hf, part, hg, asAgg, h])
theorem q_fieldAgg {t : TypeId} {x : Operand} {i sz : Nat} {fs : List Field} {f : Field} {cs : List Value} (ho : o.op = .field t x i) (hs : P.underlying t = some (.struct fs.toArray)) (hf : fs[i]? = some f) (hg : ∀ w, (isAgg f.type).run P w = .ok true w) (hz : ∀ w, (sizeOf f.type).run P w = .ok sz w)
    (hx : ev L x = some (.agg cs.toArray)) : QOp P n L X o (.agg ((cs.drop f.offset).take sz).toArray) :=
  QOp.mk (fun a => Instr.field t (a.eval x) i) (fun a => by simp [execOp, ho]) (fun a w hk _ => by
    rw [hk.eval hx]; simp [Instr.field, run_und hs, hf, part, hg, hz, asAgg])
theorem q_len {x : Operand} {t e : TypeId} {p : Option Addr} {l c : Nat} (ho : o.op = .call ⟨.builtin .len, #[x], #[t]⟩) (ht : P.underlying t = some (.slice e)) (hx : ev L x = some (.slice p l c)) : QOp P n L X o (.int .i64 (l : Int)) := fun a w hk _ => by
  simp [execOp, ho, resolve, invoke, builtin, hk.eval hx, Builtin.len_, run_und ht, Result.andThen, goInt]
theorem q_lenS {x : Operand} {t : TypeId} {s : ByteArray} (ho : o.op = .call ⟨.builtin .len, #[x], #[t]⟩) (ht : P.underlying t = some .string) (hx : ev L x = some (.string s)) : QOp P n L X o (.int .i64 (s.size : Int)) := fun a w hk _ => by
  simp [execOp, ho, resolve, invoke, builtin, hk.eval hx, Builtin.len_, run_und ht, Result.andThen, goInt]
theorem q_cap {x : Operand} {t e : TypeId} {p : Option Addr} {l c : Nat} (ho : o.op = .call ⟨.builtin .cap, #[x], #[t]⟩) (ht : P.underlying t = some (.slice e)) (hx : ev L x = some (.slice p l c)) : QOp P n L X o (.int .i64 (c : Int)) := fun a w hk _ => by
  simp [execOp, ho, resolve, invoke, builtin, hk.eval hx, Builtin.cap_, run_und ht, Result.andThen, goInt]
theorem q_makeFunc {fn : Fn} {fs cs : Array Operand} {vs us : Array Value} (f : FuncId) (ho : o.op = .makeFunc (.func f) fs cs) (h1 : ∀ a, Know n L a → fs.map a.eval = vs) (h2 : ∀ a, Know n L a → cs.map a.eval = us) : QOp P n L X o (.func (.func f) vs us) :=
  QOp.mk (fun a => Instr.makeFunc (.func f) (fs.map a.eval) (cs.map a.eval)) (fun a => by simp [execOp, ho]) (fun a w hk _ => by
    rw [h1 a hk, h2 a hk]; rfl)

/-! ### Slices of slices, strings -/
theorem run_bound {x : Value} {y j : Nat} {c : BoundsCode} {k : IntKind} (w : World) (hx : x = .int k (j : Int)) (hj : j ≤ y) : (Instr.sliceBound x y c).run P w = .ok j w := by
  subst hx
  have : (0 : Int) ≤ (j : Int) ∧ (j : Int) ≤ (y : Int) := by omega
  simp [Instr.sliceBound, asIntOf, hj]
/-- x[l:h] of a slice. -/
theorem q_sliceLH {t e : TypeId} {x lo hi : Operand} {p : Option Addr} {b off len cap sz : Nat} {k k' : IntKind} {zl zh : Int} (l h : Nat) (ho : o.op = .slice t x (some lo) (some hi) none) (ht : P.underlying t = some (.slice e)) (hz : ∀ w, (sizeOf e).run P w = .ok sz w)
    (hx : ev L x = some (.slice (some ⟨b, off, none⟩) len cap)) (hlo : ev L lo = some (.int k zl)) (hhi : ev L hi = some (.int k' zh)) (el : zl = (l : Int)) (eh : zh = (h : Int)) (h1 : l ≤ h) (h2 : h ≤ cap) :
    QOp P n L X o (.slice (some ⟨b, off + (if cap = l then 0 else l * sz), none⟩) (h - l) (cap - l)) :=
  QOp.mk (fun a => Instr.sliceAt t (a.eval x) (some (a.eval lo)) (some (a.eval hi)) none) (fun a => by simp [execOp, ho]) (fun a w hk _ => by
    subst el; subst eh
    rw [hk.eval hx, hk.eval hlo, hk.eval hhi]
    simp only [Instr.sliceAt, Instr.slice, Instr.sliceBounds, Sem.run_bind, run_und ht, Result.andThen_ok, Sem.run_pure, run_bound (P := P) w rfl h2, run_bound (P := P) w rfl h1, hz]
    by_cases he : cap = l
    · simp [he]
    · simp [he, add_none])
/-- x[l:] of a slice. -/
theorem q_sliceL {t e : TypeId} {x lo : Operand} {b off len cap sz : Nat} {k : IntKind} {zl : Int} (l : Nat) (ho : o.op = .slice t x (some lo) none none) (ht : P.underlying t = some (.slice e)) (hz : ∀ w, (sizeOf e).run P w = .ok sz w)
    (hx : ev L x = some (.slice (some ⟨b, off, none⟩) len cap)) (hlo : ev L lo = some (.int k zl)) (el : zl = (l : Int)) (h1 : l ≤ len) :
    QOp P n L X o (.slice (some ⟨b, off + (if cap = l then 0 else l * sz), none⟩) (len - l) (cap - l)) :=
  QOp.mk (fun a => Instr.sliceAt t (a.eval x) (some (a.eval lo)) none none) (fun a => by simp [execOp, ho]) (fun a w hk _ => by
    subst el
    rw [hk.eval hx, hk.eval hlo]
    simp only [Instr.sliceAt, Instr.slice, Instr.sliceBounds, Sem.run_bind, run_und ht, Result.andThen_ok, Sem.run_pure, run_bound (P := P) w rfl h1, hz]
    by_cases he : cap = l
    · simp [he]
    · simp [he, add_none])
/-- x[:h] of a slice. -/
theorem q_sliceH {t e : TypeId} {x hi : Operand} {p : Option Addr} {len cap sz : Nat} {k : IntKind} {zh : Int} (h : Nat) (ho : o.op = .slice t x none (some hi) none) (ht : P.underlying t = some (.slice e)) (hz : ∀ w, (sizeOf e).run P w = .ok sz w)
    (hx : ev L x = some (.slice p len cap)) (hhi : ev L hi = some (.int k zh)) (eh : zh = (h : Int)) (h2 : h ≤ cap) :
    QOp P n L X o (.slice p h cap) :=
  QOp.mk (fun a => Instr.sliceAt t (a.eval x) none (some (a.eval hi)) none) (fun a => by simp [execOp, ho]) (fun a w hk _ => by
    subst eh
    rw [hk.eval hx, hk.eval hhi]
    simp only [Instr.sliceAt, Instr.slice, Instr.sliceBounds, Sem.run_bind, run_und ht, Result.andThen_ok, Sem.run_pure, run_bound (P := P) w rfl h2, hz]
    cases p <;> simp [Addr.add])
/-- x[:h] of an array behind a pointer. -/
theorem q_sliceArrH {t e : TypeId} {x hi : Operand} {b off len sz : Nat} {k : IntKind} {zh : Int} (h : Nat) (ho : o.op = .slice t x none (some hi) none) (ht : P.underlying t = some (.array len e)) (hz : ∀ w, (sizeOf e).run P w = .ok sz w)
    (hx : ev L x = some (.pointer (some ⟨b, off, none⟩))) (hhi : ev L hi = some (.int k zh)) (eh : zh = (h : Int)) (h2 : h ≤ len) :
    QOp P n L X o (.slice (some ⟨b, off, none⟩) h len) :=
  QOp.mk (fun a => Instr.sliceAt t (a.eval x) none (some (a.eval hi)) none) (fun a => by simp [execOp, ho]) (fun a w hk _ => by
    subst eh
    rw [hk.eval hx, hk.eval hhi]
    simp only [Instr.sliceAt, Instr.sureAddr, Instr.sliceBounds, Sem.run_bind, run_und ht, Result.andThen_ok, Sem.run_pure, run_bound (P := P) w rfl h2, hz]
    simp [Addr.add])
/-- x[l:] of an array behind a pointer. -/
theorem q_sliceArrL {t e : TypeId} {x lo : Operand} {b off len sz : Nat} {k : IntKind} {zl : Int} (l : Nat) (ho : o.op = .slice t x (some lo) none none) (ht : P.underlying t = some (.array len e)) (hz : ∀ w, (sizeOf e).run P w = .ok sz w)
    (hx : ev L x = some (.pointer (some ⟨b, off, none⟩))) (hlo : ev L lo = some (.int k zl)) (el : zl = (l : Int)) (h2 : l ≤ len) :
    QOp P n L X o (.slice (some ⟨b, off + (if len = l then 0 else l * sz), none⟩) (len - l) (len - l)) :=
  QOp.mk (fun a => Instr.sliceAt t (a.eval x) (some (a.eval lo)) none none) (fun a => by simp [execOp, ho]) (fun a w hk _ => by
    subst el
    rw [hk.eval hx, hk.eval hlo]
    simp only [Instr.sliceAt, Instr.sureAddr, Instr.sliceBounds, Sem.run_bind, run_und ht, Result.andThen_ok, Sem.run_pure, run_bound (P := P) w rfl h2, hz]
    by_cases he : len = l
    · simp [he]
    · simp [he, add_none])
/-- x[:] of an array behind a pointer. -/
theorem q_sliceArr {t e : TypeId} {x : Operand} {b off len sz : Nat} (ho : o.op = .slice t x none none none) (ht : P.underlying t = some (.array len e)) (hz : ∀ w, (sizeOf e).run P w = .ok sz w)
    (hx : ev L x = some (.pointer (some ⟨b, off, none⟩))) :
    QOp P n L X o (.slice (some ⟨b, off, none⟩) len len) :=
  QOp.mk (fun a => Instr.sliceAt t (a.eval x) none none none) (fun a => by simp [execOp, ho]) (fun a w hk _ => by
    rw [hk.eval hx]
    simp only [Instr.sliceAt, Instr.sureAddr, Instr.sliceBounds, Sem.run_bind, run_und ht, Result.andThen_ok, Sem.run_pure, hz]
    simp [Addr.add])

/-! ### Loads -/
theorem q_load {t : TypeId} {x : Operand} {b off : Nat} {v : Value} (ho : o.op = .load t x) (hg : ∀ w, (isAgg t).run P w = .ok false w) (hx : ev L x = some (.pointer (some ⟨b, off, none⟩)))
    (hc : ∀ w, X w → w.cell? ⟨b, off, none⟩ = some v) : QOp P n L X o v :=
  QOp.mk (fun a => Instr.loadAt t (a.eval x)) (fun a => by simp [execOp, ho]) (fun a w hk hX => by
    rw [hk.eval hx]; simp [Instr.loadAt, Instr.sureAddr, loadVar, hg, hc w hX])
theorem run_loadCells (b off : Nat) (w : World) : ∀ (m i : Nat) (vs : List Value) (acc : Array Value), vs.length = m → (∀ (j : Nat) (v : Value), vs[j]? = some v → w.cell? ⟨b, off + (i + j), none⟩ = some v) →
    (loadCellsFrom ⟨b, off, none⟩ i m acc).run P w = .ok (acc ++ vs.toArray) w
  | 0, i, vs, acc, hl, h => by
    have : vs = [] := List.length_eq_zero_iff.1 hl
    subst this; simp [loadCellsFrom]
  | m + 1, i, [], acc, hl, h => by simp at hl
  | m + 1, i, u :: vs, acc, hl, h => by
    have h0 := h 0 u rfl
    rw [Nat.add_zero] at h0
    simp only [loadCellsFrom, Sem.run_bind, add_none]
    rw [run_load]
    simp only [h0, Result.andThen_ok]
    rw [run_loadCells b off w m (i + 1) vs _ (by simpa using hl) (fun j v hj => by
      have := h (j + 1) v (by simpa using hj)
      rwa [show off + (i + (j + 1)) = off + (i + 1 + j) from by omega] at this)]
    simp
theorem q_loadAgg {t : TypeId} {x : Operand} {b off sz : Nat} {vs : List Value} (ho : o.op = .load t x) (hg : ∀ w, (isAgg t).run P w = .ok true w) (hz : ∀ w, (sizeOf t).run P w = .ok sz w) (hx : ev L x = some (.pointer (some ⟨b, off, none⟩))) (hl : vs.length = sz)
    (hc : ∀ w, X w → ∀ (j : Nat) (v : Value), vs[j]? = some v → w.cell? ⟨b, off + j, none⟩ = some v) : QOp P n L X o (.agg vs.toArray) :=
  QOp.mk (fun a => Instr.loadAt t (a.eval x)) (fun a => by simp [execOp, ho]) (fun a w hk hX => by
    rw [hk.eval hx]
    have := run_loadCells (P := P) b off w sz 0 vs #[] hl (fun j v hj => by rw [Nat.zero_add]; exact hc w hX j v hj)
    simp [Instr.loadAt, Instr.sureAddr, loadVar, hg, hz, loadCells, this])
end
end Go.Sep
