/- histories as data -/
import Derived.Test.YthfdmeikpbkpaaaFx
import Derived.Test.YthfdmeikpbkpaaaS13
set_option linter.unusedVariables false
set_option linter.unusedSimpArgs false
namespace Go.Proofs.Ythfdmeikpbkpaaa
open Go.Sep Go.RowKit

theorem wf_n8 {k : Nat} (h : k ≤ 65536) : (Lit.int .i64 (k : Int)).wf = true := by
  simp only [Lit.wf, Bool.and_eq_true, decide_eq_true_eq]
  exact ⟨by show (-2 ^ 63 : Int) ≤ _; omega, by show _ ≤ (2 ^ 63 - 1 : Int); omega⟩
theorem flat_u8 (l : List Int) : (encI .u8).flat l = l.map (.int .u8) := flat_one' (encI .u8) (Value.int .u8) (fun _ => rfl) l
theorem kv_get {m : Nat} (k : Kv m) {j : Nat} (h : j < m) : k.c[1 + j]? = some (.int .u8 (k.b.getD j 0)) := by
  rw [Nat.add_comm]
  have hj : j < k.b.length := by rw [k.len]; exact h
  simp [Kv.c, List.getD_eq_getElem?_getD, hj]
theorem kv_whole {m : Nat} (k : Kv m) : (k.c.drop 0).take (m + 1) = k.c := List.take_of_length_le (by rw [List.drop_zero, Kv.c_len]; exact Nat.le_refl _)
/-- A number, and no bytes. -/
def kz (m : Nat) (n : Int) (h : (Lit.int .i64 n).wf = true) : Kv m := ⟨n, List.replicate m 0, by simp, h, fun x h => by rw [(List.mem_replicate.1 h).2]; decide⟩
/-- Is it a key? -/
def kck (k : Kv 8) : Bool := decide (0 ≤ k.n ∧ k.n ≤ 8 ∧ ∀ i : Nat, i < 8 → k.n ≤ (i : Int) → k.b.getD i 0 = 0)
theorem kck_lo {k : Kv 8} (h : k.n < 0) : kck k = false := decide_eq_false (fun x => by omega)
theorem kck_hi {k : Kv 8} (h : 8 < k.n) : kck k = false := decide_eq_false (fun x => by omega)
theorem kck_no {k : Kv 8} {i : Nat} (h : i < 8) (hn : k.n ≤ (i : Int)) (hb : ¬ k.b.getD i 0 = 0) : kck k = false := decide_eq_false (fun q => hb (q.2.2 i h hn))
theorem kck_yes {k : Kv 8} {m : Nat} (hm : k.n = (m : Int)) (h8 : m ≤ 8) (hz : ∀ j, m ≤ j → j < 8 → k.b.getD j 0 = 0) : kck k = true := decide_eq_true ⟨by omega, by omega, fun i h1 h2 => hz i (by omega) h1⟩
/-- The key of the first n bytes. -/
def kcut (k : Kv 8) (n : Nat) (h : n ≤ 8) : Kv 8 := ⟨n, k.b.take n ++ List.replicate (8 - n) 0, by simp [k.len]; omega, wf_n8 (by omega), fun x hx => by
  rcases List.mem_append.1 hx with hx | hx
  · exact k.wb x (List.mem_of_mem_take hx)
  · rw [(List.mem_replicate.1 hx).2]; decide⟩
theorem kcut_eq (k : Kv 8) {n : Nat} (hn : k.n = (n : Int)) (h : n ≤ 8) : decide (kcut k n h = k) = kck k := by
  unfold kck
  rw [decide_eq_decide]
  have hlen : (k.b.take n ++ List.replicate (8 - n) 0).length = 8 := by simp [k.len]; omega
  constructor
  · intro e
    refine ⟨by omega, by omega, fun i hi hni => ?_⟩
    have hb : k.b = k.b.take n ++ List.replicate (8 - n) 0 := (congrArg Kv.b e).symm
    rw [hb, List.getD_eq_getElem?_getD, List.getElem?_append_right (by simp; omega), List.getElem?_replicate]
    split <;> rfl
  · rintro ⟨_, _, hz⟩
    have hl : k.b.take n ++ List.replicate (8 - n) 0 = k.b := List.ext_getElem (by rw [k.len]; exact hlen) (fun i h1 h2 => by
      have hi : i < 8 := by rw [← k.len]; exact h2
      rcases Nat.lt_or_ge i n with hin | hin
      · rw [List.getElem_append_left (by simp; omega), List.getElem_take]
      · rw [List.getElem_append_right (by simp; omega), List.getElem_replicate]
        have := hz i hi (by omega)
        rw [List.getD_eq_getElem?_getD, List.getElem?_eq_getElem h2] at this
        exact this.symm)
    exact Kv.ext' hn.symm hl
theorem kcopy (k : Kv 8) {n : Nat} (h : n ≤ 8) : Sep.splice (.int .i64 (n : Int) :: List.replicate 8 (.int .u8 0)) 1 ((encI .u8).flat (k.b.take (min k.b.length n))) = (kcut k n h).c := by
  have hm : min k.b.length n = n := by rw [k.len]; omega
  have hl : (k.b.take n).length = n := by simp [k.len]; omega
  rw [hm, flat_u8, Sep.splice_eq _ _ _ (by simp [k.len]; omega)]
  simp only [List.length_map, hl, Kv.c, kcut, List.map_append, List.map_replicate]
  rw [Nat.add_comm 1 n, List.take_succ_cons, List.take_zero, List.drop_succ_cons, List.drop_replicate]
  rfl
/-- Is it a value? -/
def vck (k : Kv 16) : Bool := decide (0 ≤ k.n ∧ k.n ≤ 16 ∧ ∀ i : Nat, i < 16 → k.n ≤ (i : Int) → k.b.getD i 0 = 0)
theorem vck_lo {k : Kv 16} (h : k.n < 0) : vck k = false := decide_eq_false (fun x => by omega)
theorem vck_hi {k : Kv 16} (h : 16 < k.n) : vck k = false := decide_eq_false (fun x => by omega)
theorem vck_no {k : Kv 16} {i : Nat} (h : i < 16) (hn : k.n ≤ (i : Int)) (hb : ¬ k.b.getD i 0 = 0) : vck k = false := decide_eq_false (fun q => hb (q.2.2 i h hn))
theorem vck_yes {k : Kv 16} {m : Nat} (hm : k.n = (m : Int)) (h16 : m ≤ 16) (hz : ∀ j, m ≤ j → j < 16 → k.b.getD j 0 = 0) : vck k = true := decide_eq_true ⟨by omega, by omega, fun i h1 h2 => hz i (by omega) h1⟩
/-- The value of the first n bytes. -/
def vcut (k : Kv 16) (n : Nat) (h : n ≤ 16) : Kv 16 := ⟨n, k.b.take n ++ List.replicate (16 - n) 0, by simp [k.len]; omega, wf_n8 (by omega), fun x hx => by
  rcases List.mem_append.1 hx with hx | hx
  · exact k.wb x (List.mem_of_mem_take hx)
  · rw [(List.mem_replicate.1 hx).2]; decide⟩
theorem vcut_eq (k : Kv 16) {n : Nat} (hn : k.n = (n : Int)) (h : n ≤ 16) : decide (vcut k n h = k) = vck k := by
  unfold vck
  rw [decide_eq_decide]
  have hlen : (k.b.take n ++ List.replicate (16 - n) 0).length = 16 := by simp [k.len]; omega
  constructor
  · intro e
    refine ⟨by omega, by omega, fun i hi hni => ?_⟩
    have hb : k.b = k.b.take n ++ List.replicate (16 - n) 0 := (congrArg Kv.b e).symm
    rw [hb, List.getD_eq_getElem?_getD, List.getElem?_append_right (by simp; omega), List.getElem?_replicate]
    split <;> rfl
  · rintro ⟨_, _, hz⟩
    have hl : k.b.take n ++ List.replicate (16 - n) 0 = k.b := List.ext_getElem (by rw [k.len]; exact hlen) (fun i h1 h2 => by
      have hi : i < 16 := by rw [← k.len]; exact h2
      rcases Nat.lt_or_ge i n with hin | hin
      · rw [List.getElem_append_left (by simp; omega), List.getElem_take]
      · rw [List.getElem_append_right (by simp; omega), List.getElem_replicate]
        have := hz i hi (by omega)
        rw [List.getD_eq_getElem?_getD, List.getElem?_eq_getElem h2] at this
        exact this.symm)
    exact Kv.ext' hn.symm hl
theorem vcopy (k : Kv 16) {n : Nat} (h : n ≤ 16) : Sep.splice (.int .i64 (n : Int) :: List.replicate 16 (.int .u8 0)) 1 ((encI .u8).flat (k.b.take (min k.b.length n))) = (vcut k n h).c := by
  have hm : min k.b.length n = n := by rw [k.len]; omega
  have hl : (k.b.take n).length = n := by simp [k.len]; omega
  rw [hm, flat_u8, Sep.splice_eq _ _ _ (by simp [k.len]; omega)]
  simp only [List.length_map, hl, Kv.c, vcut, List.map_append, List.map_replicate]
  rw [Nat.add_comm 1 n, List.take_succ_cons, List.take_zero, List.drop_succ_cons, List.drop_replicate]
  rfl

/-- An operation. -/
structure Op where
  kind : Int
  key : ByteArray
  val : ByteArray
  by' : Int
  wk : (Lit.int .i64 kind).wf = true
  wy : (Lit.int .u64 by').wf = true
  sk : key.size ≤ maxLen
  sv : val.size ≤ maxLen
namespace Op
def c (o : Op) : List Value := [.int .i64 o.kind, .string o.key, .string o.val, .int .u64 o.by']
theorem ext' {a b : Op} (h1 : a.kind = b.kind) (h2 : a.key = b.key) (h3 : a.val = b.val) (h4 : a.by' = b.by') : a = b := by
  cases a; cases b; simp only at h1 h2 h3 h4; subst h1; subst h2; subst h3; subst h4; rfl
theorem c_len (o : Op) : o.c.length = 4 := rfl
theorem one (o : Op) : ∀ v ∈ o.c, v.oneCell' = true := by
  intro v hv
  simp only [c, List.mem_cons, List.not_mem_nil, or_false] at hv
  rcases hv with rfl | rfl | rfl | rfl <;> rfl
theorem c_inj {a b : Op} : a.c = b.c ↔ a = b := by
  refine ⟨fun h => ?_, fun h => by rw [h]⟩
  simp only [c, List.cons.injEq, Value.int.injEq, Value.string.injEq, true_and, and_true] at h
  exact ext' h.1 h.2.1 h.2.2.1 h.2.2.2
def ks : List Sc := [.i .i64, .s, .s, .i .u64]
theorem kinds (o : Op) : Kinds ks o.c := by
  refine ⟨rfl, fun j k v h1 h2 => ?_⟩
  match j with
  | 0 => cases h1; cases h2; exact ⟨_, rfl, o.wk⟩
  | 1 => cases h1; cases h2; exact ⟨_, rfl, o.sk⟩
  | 2 => cases h1; cases h2; exact ⟨_, rfl, o.sv⟩
  | 3 => cases h1; cases h2; exact ⟨_, rfl, o.wy⟩
  | j + 4 => simp [ks] at h1
def enc : Enc Op := { sz := 4, f := Op.c, len := c_len, pos := by decide, one := one }
end Op
/-- An answer. -/
structure An where
  code : Int
  found : Bool
  v : Kv 16
  wc : (Lit.int .i64 code).wf = true
namespace An
def c (a : An) : List Value := [.int .i64 a.code, .bool a.found] ++ a.v.c
theorem ext' {a b : An} (h1 : a.code = b.code) (h2 : a.found = b.found) (h3 : a.v = b.v) : a = b := by
  cases a; cases b; simp only at h1 h2 h3; subst h1; subst h2; subst h3; rfl
theorem c_len (a : An) : a.c.length = 19 := by simp [c, Kv.c_len]
theorem one (a : An) : ∀ v ∈ a.c, v.oneCell' = true := by
  intro v hv
  rcases List.mem_append.1 hv with hv | hv
  · simp only [List.mem_cons, List.not_mem_nil, or_false] at hv
    rcases hv with rfl | rfl <;> rfl
  · exact Kv.one _ _ hv
theorem c_inj {a b : An} : a.c = b.c ↔ a = b := by
  refine ⟨fun h => ?_, fun h => by rw [h]⟩
  simp only [c, List.cons_append, List.nil_append, List.cons.injEq, Value.int.injEq, Value.bool.injEq, true_and] at h
  exact ext' h.1 h.2.1 (Kv.c_inj.1 h.2.2)
def ks : List Sc := [.i .i64, .b] ++ Kv.ks 16
theorem kinds_app {ks ls : List Sc} {cs ds : List Value} (h1 : Kinds ks cs) (h2 : Kinds ls ds) : Kinds (ks ++ ls) (cs ++ ds) := by
  refine ⟨by rw [List.length_append, List.length_append, h1.1, h2.1], fun i k v hk hv => ?_⟩
  by_cases hi : i < ks.length
  · rw [List.getElem?_append_left hi] at hk
    rw [List.getElem?_append_left (by rw [h1.1]; exact hi)] at hv
    exact h1.2 i k v hk hv
  · rw [List.getElem?_append_right (by omega)] at hk
    rw [List.getElem?_append_right (by rw [h1.1]; omega), h1.1] at hv
    exact h2.2 _ k v hk hv
theorem kinds (a : An) : Kinds ks a.c := by
  refine kinds_app ⟨rfl, fun j k v h1 h2 => ?_⟩ (Kv.kinds a.v)
  match j with
  | 0 => cases h1; cases h2; exact ⟨_, rfl, a.wc⟩
  | 1 => cases h1; cases h2; exact ⟨_, rfl⟩
  | j + 2 => simp at h1
theorem v_part (a : An) : (a.c.drop 2).take 17 = a.v.c := by
  unfold c; exact List.take_of_length_le (by simp [Kv.c_len])
def enc : Enc An := { sz := 19, f := An.c, len := c_len, pos := by decide, one := one }
end An
/-- An event. -/
structure Ev where
  client : Int
  index : Int
  done : Bool
  a : An
  wc : (Lit.int .i64 client).wf = true
  wi : (Lit.int .i64 index).wf = true
namespace Ev
def c (e : Ev) : List Value := [.int .i64 e.client, .int .i64 e.index, .bool e.done] ++ e.a.c
theorem ext' {a b : Ev} (h1 : a.client = b.client) (h2 : a.index = b.index) (h3 : a.done = b.done) (h4 : a.a = b.a) : a = b := by
  cases a; cases b; simp only at h1 h2 h3 h4; subst h1; subst h2; subst h3; subst h4; rfl
theorem c_len (e : Ev) : e.c.length = 22 := by simp [c, An.c_len]
theorem one (e : Ev) : ∀ v ∈ e.c, v.oneCell' = true := by
  intro v hv
  rcases List.mem_append.1 hv with hv | hv
  · simp only [List.mem_cons, List.not_mem_nil, or_false] at hv
    rcases hv with rfl | rfl | rfl <;> rfl
  · exact An.one _ _ hv
theorem c_inj {a b : Ev} : a.c = b.c ↔ a = b := by
  refine ⟨fun h => ?_, fun h => by rw [h]⟩
  simp only [c, List.cons_append, List.nil_append, List.cons.injEq, Value.int.injEq, Value.bool.injEq, true_and] at h
  exact ext' h.1 h.2.1 h.2.2.1 (An.c_inj.1 h.2.2.2)
def ks : List Sc := [.i .i64, .i .i64, .b] ++ An.ks
theorem kinds (e : Ev) : Kinds ks e.c := by
  refine An.kinds_app ⟨rfl, fun j k v h1 h2 => ?_⟩ (An.kinds e.a)
  match j with
  | 0 => cases h1; cases h2; exact ⟨_, rfl, e.wc⟩
  | 1 => cases h1; cases h2; exact ⟨_, rfl, e.wi⟩
  | 2 => cases h1; cases h2; exact ⟨_, rfl⟩
  | j + 3 => simp at h1
theorem a_part (e : Ev) : (e.c.drop 3).take 19 = e.a.c := by
  unfold c; exact List.take_of_length_le (by simp [An.c_len])
def enc : Enc Ev := { sz := 22, f := Ev.c, len := c_len, pos := by decide, one := one }
end Ev
/-- A call. -/
structure Ca where
  client : Int
  index : Int
  op : Op
  from' : Int
  to' : Int
  a : An
  wc : (Lit.int .i64 client).wf = true
  wi : (Lit.int .i64 index).wf = true
  wf : (Lit.int .i64 from').wf = true
  wt : (Lit.int .i64 to').wf = true
namespace Ca
def c (e : Ca) : List Value := [.int .i64 e.client, .int .i64 e.index] ++ (e.op.c ++ ([.int .i64 e.from', .int .i64 e.to'] ++ e.a.c))
theorem ext' {a b : Ca} (h1 : a.client = b.client) (h2 : a.index = b.index) (h3 : a.op = b.op) (h4 : a.from' = b.from') (h5 : a.to' = b.to') (h6 : a.a = b.a) : a = b := by
  cases a; cases b; simp only at h1 h2 h3 h4 h5 h6; subst h1; subst h2; subst h3; subst h4; subst h5; subst h6; rfl
theorem c_len (e : Ca) : e.c.length = 27 := by simp [c, An.c_len, Op.c_len]
theorem one (e : Ca) : ∀ v ∈ e.c, v.oneCell' = true := by
  intro v hv
  rcases List.mem_append.1 hv with hv | hv
  · simp only [List.mem_cons, List.not_mem_nil, or_false] at hv
    rcases hv with rfl | rfl <;> rfl
  rcases List.mem_append.1 hv with hv | hv
  · exact Op.one _ _ hv
  rcases List.mem_append.1 hv with hv | hv
  · simp only [List.mem_cons, List.not_mem_nil, or_false] at hv
    rcases hv with rfl | rfl <;> rfl
  · exact An.one _ _ hv
theorem c_inj {a b : Ca} : a.c = b.c ↔ a = b := by
  refine ⟨fun h => ?_, fun h => by rw [h]⟩
  obtain ⟨h1, h2⟩ := List.append_inj (show [_, _] ++ _ = [_, _] ++ _ from h) rfl
  obtain ⟨h3, h4⟩ := List.append_inj h2 rfl
  obtain ⟨h5, h6⟩ := List.append_inj (show [_, _] ++ _ = [_, _] ++ _ from h4) rfl
  simp only [List.cons.injEq, Value.int.injEq, true_and, and_true] at h1 h5
  exact ext' h1.1 h1.2 (Op.c_inj.1 h3) h5.1 h5.2 (An.c_inj.1 h6)
def ks : List Sc := [.i .i64, .i .i64] ++ (Op.ks ++ ([.i .i64, .i .i64] ++ An.ks))
theorem kinds (e : Ca) : Kinds ks e.c := by
  refine An.kinds_app ⟨rfl, fun j k v h1 h2 => ?_⟩ (An.kinds_app (Op.kinds e.op) (An.kinds_app ⟨rfl, fun j k v h1 h2 => ?_⟩ (An.kinds e.a)))
  · match j with
    | 0 => cases h1; cases h2; exact ⟨_, rfl, e.wc⟩
    | 1 => cases h1; cases h2; exact ⟨_, rfl, e.wi⟩
    | j + 2 => simp at h1
  · match j with
    | 0 => cases h1; cases h2; exact ⟨_, rfl, e.wf⟩
    | 1 => cases h1; cases h2; exact ⟨_, rfl, e.wt⟩
    | j + 2 => simp at h1
theorem from_at (e : Ca) : e.c[6]? = some (.int .i64 e.from') := rfl
theorem to_at (e : Ca) : e.c[7]? = some (.int .i64 e.to') := rfl
theorem op_part (e : Ca) : (e.c.drop 2).take 4 = e.op.c := rfl
theorem a_part (e : Ca) : (e.c.drop 8).take 19 = e.a.c := by
  show (e.a.c).take 19 = _
  exact List.take_of_length_le (by rw [An.c_len]; exact Nat.le_refl _)
def enc : Enc Ca := { sz := 27, f := Ca.c, len := c_len, pos := by decide, one := one }
end Ca
instance : DecidableEq Op := fun a b => if h : a.kind = b.kind ∧ a.key = b.key ∧ a.val = b.val ∧ a.by' = b.by' then isTrue (Op.ext' h.1 h.2.1 h.2.2.1 h.2.2.2) else isFalse (fun e => h (by subst e; exact ⟨rfl, rfl, rfl, rfl⟩))
instance : DecidableEq An := fun a b => if h : a.code = b.code ∧ a.found = b.found ∧ a.v = b.v then isTrue (An.ext' h.1 h.2.1 h.2.2) else isFalse (fun e => h (by subst e; exact ⟨rfl, rfl, rfl⟩))
instance : DecidableEq Ev := fun a b => if h : a.client = b.client ∧ a.index = b.index ∧ a.done = b.done ∧ a.a = b.a then isTrue (Ev.ext' h.1 h.2.1 h.2.2.1 h.2.2.2) else isFalse (fun e => h (by subst e; exact ⟨rfl, rfl, rfl, rfl⟩))
instance : DecidableEq Ca := fun a b => if h : a.client = b.client ∧ a.index = b.index ∧ a.op = b.op ∧ a.from' = b.from' ∧ a.to' = b.to' ∧ a.a = b.a then isTrue (Ca.ext' h.1 h.2.1 h.2.2.1 h.2.2.2.1 h.2.2.2.2.1 h.2.2.2.2.2) else isFalse (fun e => h (by subst e; exact ⟨rfl, rfl, rfl, rfl, rfl, rfl⟩))
section
variable {n : Nat} {L : Env} {X : World → Prop} {o : Oper}
theorem q_eqV {u : TypeId} {x y : Operand} (k j : Kv 16) (ho : o.op = .binOp .eql 43 x y u) (hx : ev L x = some (.agg k.c.toArray)) (hy : ev L y = some (.agg j.c.toArray)) : QOp Try.prog n L X o (.bool (decide (k = j))) :=
  q_eqAgg (d := 3) (ks := Kv.ks 16) _ (by kernel_rfl) (by kernel_rfl) (by decide) (by kernel_rfl) (by kernel_rfl) (by kernel_rfl) ho hx hy (Kv.kinds k) (Kv.kinds j) Kv.eqb
theorem q_eqA {u : TypeId} {x y : Operand} (k j : An) (ho : o.op = .binOp .eql 45 x y u) (hx : ev L x = some (.agg k.c.toArray)) (hy : ev L y = some (.agg j.c.toArray)) : QOp Try.prog n L X o (.bool (decide (k = j))) :=
  q_eqAgg (d := 4) (ks := An.ks) _ (by kernel_rfl) (by kernel_rfl) (by decide) (by kernel_rfl) (by kernel_rfl) (by kernel_rfl) ho hx hy (An.kinds k) (An.kinds j) (by rw [An.c_inj, decide_eq_true_eq])
theorem q_neA {u : TypeId} {x y : Operand} (k j : An) (ho : o.op = .binOp .neq 45 x y u) (hx : ev L x = some (.agg k.c.toArray)) (hy : ev L y = some (.agg j.c.toArray)) : QOp Try.prog n L X o (.bool (!decide (k = j))) :=
  q_neAgg (d := 4) (ks := An.ks) _ (by kernel_rfl) (by kernel_rfl) (by decide) (by kernel_rfl) (by kernel_rfl) (by kernel_rfl) ho hx hy (An.kinds k) (An.kinds j) (by rw [An.c_inj, decide_eq_true_eq])
theorem q_neC {u : TypeId} {x y : Operand} (k j : Ca) (ho : o.op = .binOp .neq 47 x y u) (hx : ev L x = some (.agg k.c.toArray)) (hy : ev L y = some (.agg j.c.toArray)) : QOp Try.prog n L X o (.bool (!decide (k = j))) :=
  q_neAgg (d := 5) (ks := Ca.ks) _ (by kernel_rfl) (by kernel_rfl) (by decide) (by kernel_rfl) (by kernel_rfl) (by kernel_rfl) ho hx hy (Ca.kinds k) (Ca.kinds j) (by rw [Ca.c_inj, decide_eq_true_eq])
end
/-! ## What the layer tells of calls -/
def bef (a b : Ca) : Bool := decide (0 ≤ a.to') && decide (a.to' < b.from')
def lrg (o : Op) : Bool := decide (8 < o.key.size) || (decide (o.kind = 1) && decide (16 < o.val.size))
/-- Under way at p? -/
def und (p : Int) (c : Ca) : Bool := decide (c.from' ≤ p) && (decide (c.to' < 0) || decide (p ≤ c.to'))
def wid (l : List Ca) : Nat := l.foldl (fun m a => max m (l.countP (und a.from'))) 0
def pen (l : List Ca) : Nat := l.countP (fun c => decide (c.to' < 0))
theorem countP_snoc {α : Type} {p : α → Bool} {l : List α} {i : Nat} {x : α} (h : l[i]? = some x) : (l.take (i + 1)).countP p = (l.take i).countP p + (if p x then 1 else 0) := by
  rw [List.take_add_one, h, List.countP_append]; simp [List.countP_cons]

end Go.Proofs.Ythfdmeikpbkpaaa
