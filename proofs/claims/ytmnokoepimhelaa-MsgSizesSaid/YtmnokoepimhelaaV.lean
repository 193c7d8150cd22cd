/- Keys, values, messages as data; the contracts of values -/
import Derived.Test.YtmnokoepimhelaaFx
import Derived.Test.YtmnokoepimhelaaS10
import Derived.Test.YtmnokoepimhelaaVal6
import Derived.Test.YtmnokoepimhelaaVal7
set_option linter.unusedVariables false
set_option linter.unusedSimpArgs false
namespace Go.Proofs.Ytmnokoepimhelaa
open Go.Sep Go.RowKit

theorem from_take (n : Int) : (from_ n).take 8 = le n 8 := by
  unfold from_ pad
  rw [List.take_append_of_le_length (by rw [le_length]; exact Nat.le_refl _)]
  exact List.take_of_length_le (by rw [le_length]; exact Nat.le_refl _)
theorem num_from (n : Int) (h0 : 0 ≤ n) (h1 : n < 18446744073709551616) : num ((from_ n).take 8) = n := by
  rw [from_take, num_le 8 n h0]
  exact Int.emod_eq_of_lt h0 (by omega)
theorem wf_from (n : Int) : ∀ b ∈ from_ n, (Lit.int .u8 b).wf = true := wf_pad 16 (fun b hb => wf_u8 (le_byte 8 n b hb).1 (le_byte 8 n b hb).2)
theorem vcheck_from (n : Int) : vcheck 8 (from_ n) = true := by
  have := vcheck_nat 8 (from_ n) (by decide)
  rw [show ((8 : Nat) : Int) = 8 from rfl] at this
  rw [this, from_take]; simp [from_]

theorem wrap_add_l (a b : Int) : IntKind.u64.wrap (IntKind.u64.wrap a + b) = IntKind.u64.wrap (a + b) := by simp only [IntKind.wrap_u64]; omega
theorem wrap_add_r (a b : Int) : IntKind.u64.wrap (a + IntKind.u64.wrap b) = IntKind.u64.wrap (a + b) := by simp only [IntKind.wrap_u64]; omega
theorem wrap_bd (a : Int) : 0 ≤ IntKind.u64.wrap a ∧ IntKind.u64.wrap a < 18446744073709551616 := by simp only [IntKind.wrap_u64]; omega
theorem wrap_id {a : Int} (h0 : 0 ≤ a) (h1 : a < 18446744073709551616) : IntKind.u64.wrap a = a := by simp only [IntKind.wrap_u64]; omega

def vck (k : Kv 16) : Bool := vcheck k.n k.b
def vfrom (z : Int) : Kv 16 := ⟨8, from_ z, from_length z, by decide, wf_from z⟩
def vplus (k : Kv 16) (z : Int) : Kv 16 := vfrom (IntKind.u64.wrap (num (k.b.take 8) + z))
def kv0 (m : Nat) : Kv m := ⟨0, List.replicate m 0, by simp, by decide, fun x h => by rw [(List.mem_replicate.1 h).2]; decide⟩
/-- A message. -/
structure Ms where
  kind : Int
  seq : Int
  key : Kv 8
  val : Kv 16
  by' : Int
  wk : (Lit.int .i64 kind).wf = true
  ws : (Lit.int .u64 seq).wf = true
  wy : (Lit.int .u64 by').wf = true
namespace Ms
def c (m : Ms) : List Value := [.int .i64 m.kind, .int .u64 m.seq] ++ (m.key.c ++ (m.val.c ++ [.int .u64 m.by']))
theorem ext' {a b : Ms} (h1 : a.kind = b.kind) (h2 : a.seq = b.seq) (h3 : a.key = b.key) (h4 : a.val = b.val) (h5 : a.by' = b.by') : a = b := by
  cases a; cases b; simp only at h1 h2 h3 h4 h5; subst h1; subst h2; subst h3; subst h4; subst h5; rfl
instance : DecidableEq Ms := fun a b => if h : a.kind = b.kind ∧ a.seq = b.seq ∧ a.key = b.key ∧ a.val = b.val ∧ a.by' = b.by' then isTrue (ext' h.1 h.2.1 h.2.2.1 h.2.2.2.1 h.2.2.2.2) else isFalse (fun e => h (by subst e; exact ⟨rfl, rfl, rfl, rfl, rfl⟩))
theorem c_len (m : Ms) : m.c.length = 29 := by simp [c, Kv.c_len]
theorem key_part (m : Ms) : (m.c.drop 2).take 9 = m.key.c := part_mid rfl (Kv.c_len _)
theorem val_part (m : Ms) : (m.c.drop 11).take 17 = m.val.c := by
  unfold c; rw [← List.append_assoc]; exact part_mid (by simp [Kv.c_len]) (Kv.c_len _)
theorem by_part (m : Ms) : m.c[28]? = some (.int .u64 m.by') := by
  unfold c; rw [← List.append_assoc, ← List.append_assoc, List.getElem?_append_right (by simp [Kv.c_len])]; simp [Kv.c_len]
theorem keyn_part (m : Ms) : m.c[2]? = some (.int .i64 m.key.n) := rfl
theorem valn_part (m : Ms) : m.c[11]? = some (.int .i64 m.val.n) := by
  unfold c; rw [← List.append_assoc, List.getElem?_append_right (by simp [Kv.c_len])]; simp [Kv.c, m.key.len]
def setKind (m : Ms) (k : Int) (h : (Lit.int .i64 k).wf = true) : Ms := { m with kind := k, wk := h }
def setKey (m : Ms) (k : Kv 8) : Ms := { m with key := k }
def setVal (m : Ms) (v : Kv 16) : Ms := { m with val := v }
def setBy (m : Ms) (z : Int) (h : (Lit.int .u64 z).wf = true) : Ms := { m with by' := z, wy := h }
theorem set_kind (m : Ms) (k : Int) (h : (Lit.int .i64 k).wf = true) : m.c.set 0 (.int .i64 k) = (m.setKind k h).c := rfl
theorem set_key (m : Ms) (k : Kv 8) : Sep.splice m.c 2 k.c = (m.setKey k).c := splice_mid rfl (by rw [Kv.c_len, Kv.c_len])
theorem set_val (m : Ms) (v : Kv 16) : Sep.splice m.c 11 v.c = (m.setVal v).c := by
  unfold c; rw [← List.append_assoc]
  rw [splice_mid (by simp [Kv.c_len]) (by rw [Kv.c_len, Kv.c_len]), List.append_assoc]; rfl
theorem set_by (m : Ms) (z : Int) (h : (Lit.int .u64 z).wf = true) : m.c.set 28 (.int .u64 z) = (m.setBy z h).c := by
  unfold c; rw [← List.append_assoc, ← List.append_assoc, List.set_append_right _ _ (by simp [Kv.c_len])]
  simp [Kv.c_len, setBy]
theorem one (m : Ms) : ∀ v ∈ m.c, v.oneCell' = true := by
  intro v hv
  unfold c at hv
  simp only [List.mem_append, List.mem_cons, List.not_mem_nil, or_false] at hv
  rcases hv with (rfl | rfl) | hv | hv | rfl
  · rfl
  · rfl
  · exact Kv.one _ v hv
  · exact Kv.one _ v hv
  · rfl
theorem c_inj {a b : Ms} : a.c = b.c ↔ a = b := by
  refine ⟨fun h => ?_, fun h => by rw [h]⟩
  have h2 := h
  unfold c at h
  simp only [List.cons_append, List.nil_append, List.cons.injEq, Value.int.injEq, true_and] at h
  have hk : a.key.c = b.key.c := by rw [← key_part, ← key_part, h2]
  have hv : a.val.c = b.val.c := by rw [← val_part, ← val_part, h2]
  have hb : a.c[28]? = b.c[28]? := by rw [h2]
  rw [by_part, by_part] at hb
  exact ext' h.1 h.2.1 (Kv.c_inj.1 hk) (Kv.c_inj.1 hv) (by simpa using hb)
theorem eqb {a b : Ms} : a.c = b.c ↔ decide (a = b) = true := by rw [c_inj, decide_eq_true_eq]
def ks : List Sc := [Sc.i .i64, Sc.i .u64] ++ (Kv.ks 8 ++ (Kv.ks 16 ++ [Sc.i .u64]))
end Ms
theorem kinds_app {a b : List Sc} {xs ys : List Value} (h1 : Kinds a xs) (h2 : Kinds b ys) : Kinds (a ++ b) (xs ++ ys) := by
  refine ⟨by rw [List.length_append, List.length_append, h1.1, h2.1], fun j q v g1 g2 => ?_⟩
  rcases Nat.lt_or_ge j a.length with hj | hj
  · rw [List.getElem?_append_left hj] at g1
    rw [List.getElem?_append_left (by have := h1.1; omega)] at g2
    exact h1.2 j q v g1 g2
  · rw [List.getElem?_append_right hj] at g1
    rw [List.getElem?_append_right (by have := h1.1; omega), h1.1] at g2
    exact h2.2 _ q v g1 (by have := h1.1; first | exact g2 | (rw [this] at *; exact g2))
theorem kinds_one {k : Sc} {v : Value} (h : k.ok v) : Kinds [k] [v] := ⟨rfl, fun j q u g1 g2 => by
  cases j with
  | zero => simp at g1 g2; subst g1; subst g2; exact h
  | succ j => simp at g1⟩
theorem Ms.kinds (m : Ms) : Kinds Ms.ks m.c := by
  have h0 : Kinds [Sc.i .i64, Sc.i .u64] [Value.int .i64 m.kind, Value.int .u64 m.seq] := kinds_app (a := [_]) (xs := [_]) (kinds_one (show Sc.ok (.i .i64) _ from ⟨_, rfl, m.wk⟩)) (kinds_one (show Sc.ok (.i .u64) _ from ⟨_, rfl, m.ws⟩))
  exact kinds_app h0 (kinds_app (Kv.kinds m.key) (kinds_app (Kv.kinds m.val) (kinds_one (show Sc.ok (.i .u64) _ from ⟨_, rfl, m.wy⟩))))
section
variable {n : Nat} {L : Env} {X : World → Prop} {o : Oper}
theorem q_eqK {u : TypeId} {x y : Operand} (k j : Kv 8) (ho : o.op = .binOp .eql 25 x y u) (hx : ev L x = some (.agg k.c.toArray)) (hy : ev L y = some (.agg j.c.toArray)) : QOp Try.prog n L X o (.bool (decide (k = j))) :=
  q_eqAgg (d := 3) (ks := Kv.ks 8) _ (by kernel_rfl) (by kernel_rfl) (by decide) (by kernel_rfl) (by kernel_rfl) (by kernel_rfl) ho hx hy (Kv.kinds k) (Kv.kinds j) Kv.eqb
theorem q_neK {u : TypeId} {x y : Operand} (k j : Kv 8) (ho : o.op = .binOp .neq 25 x y u) (hx : ev L x = some (.agg k.c.toArray)) (hy : ev L y = some (.agg j.c.toArray)) : QOp Try.prog n L X o (.bool (!decide (k = j))) :=
  q_neAgg (d := 3) (ks := Kv.ks 8) _ (by kernel_rfl) (by kernel_rfl) (by decide) (by kernel_rfl) (by kernel_rfl) (by kernel_rfl) ho hx hy (Kv.kinds k) (Kv.kinds j) Kv.eqb
theorem q_eqVl {u : TypeId} {x y : Operand} (k j : Kv 16) (ho : o.op = .binOp .eql 28 x y u) (hx : ev L x = some (.agg k.c.toArray)) (hy : ev L y = some (.agg j.c.toArray)) : QOp Try.prog n L X o (.bool (decide (k = j))) :=
  q_eqAgg (d := 3) (ks := Kv.ks 16) _ (by kernel_rfl) (by kernel_rfl) (by decide) (by kernel_rfl) (by kernel_rfl) (by kernel_rfl) ho hx hy (Kv.kinds k) (Kv.kinds j) Kv.eqb
theorem q_neVl {u : TypeId} {x y : Operand} (k j : Kv 16) (ho : o.op = .binOp .neq 28 x y u) (hx : ev L x = some (.agg k.c.toArray)) (hy : ev L y = some (.agg j.c.toArray)) : QOp Try.prog n L X o (.bool (!decide (k = j))) :=
  q_neAgg (d := 3) (ks := Kv.ks 16) _ (by kernel_rfl) (by kernel_rfl) (by decide) (by kernel_rfl) (by kernel_rfl) (by kernel_rfl) ho hx hy (Kv.kinds k) (Kv.kinds j) Kv.eqb
theorem q_eqM {u : TypeId} {x y : Operand} (k j : Ms) (ho : o.op = .binOp .eql 30 x y u) (hx : ev L x = some (.agg k.c.toArray)) (hy : ev L y = some (.agg j.c.toArray)) : QOp Try.prog n L X o (.bool (decide (k = j))) :=
  q_eqAgg (d := 4) (ks := Ms.ks) _ (by kernel_rfl) (by kernel_rfl) (by decide) (by kernel_rfl) (by kernel_rfl) (by kernel_rfl) ho hx hy (Ms.kinds k) (Ms.kinds j) Ms.eqb
end

theorem vcheck_con (k : Kv 16) : Con Try.prog 24 [.agg k.c.toArray] (fun _ => True) [] (fun _ : Unit => .bool (vck k)) (fun _ => True) (fun _ => []) := con_of (fun w _ => check_any k.n k.b w k.len k.wb)
theorem rvcheck_con (k : Kv 16) : Con Try.prog 13 [.agg k.c.toArray] (fun _ => True) [] (fun _ : Unit => .bool (vck k)) (fun _ => True) (fun _ => []) := con_of (fun w _ => rcheck_any k.n k.b w k.len)
theorem plus_con (k : Kv 16) (z : Int) : Con Try.prog 26 [.agg k.c.toArray, .int .u64 z] (fun _ => True) [] (fun _ : Unit => .agg (vplus k z).c.toArray) (fun _ => True) (fun _ => []) := con_of (fun w _ => plus_any k.n k.b z w k.len k.wb)
theorem rplus_con (k : Kv 16) (z : Int) : Con Try.prog 27 [.agg k.c.toArray, .int .u64 z] (fun _ => True) [] (fun _ : Unit => .agg (vplus k z).c.toArray) (fun _ => True) (fun _ => []) := con_of (fun w _ => rplus_any k.n k.b z w k.len k.wb)
theorem rfrom_con (z : Int) (h0 : 0 ≤ z) (h1 : z < 18446744073709551616) : Con Try.prog 22 [.int .u64 z] (fun _ => True) [] (fun _ : Unit => .agg (vfrom z).c.toArray) (fun _ => True) (fun _ => []) := con_of (fun w _ => rfrom_any z w h0 h1)

end Go.Proofs.Ytmnokoepimhelaa
