/- keys as data -/
import Derived.Test.YtaojcncmbbgmcaaFx
import Derived.Test.YtaojcncmbbgmcaaS12
import Derived.Lib.Bytealg
set_option linter.unusedVariables false
set_option linter.unusedSimpArgs false
namespace Go.Proofs.Ytaojcncmbbgmcaa
open Go.Sep Go.RowKit

theorem wf_n8 {k : Nat} (h : k ≤ 65536) : (Lit.int .i64 (k : Int)).wf = true := by
  simp only [Lit.wf, Bool.and_eq_true, decide_eq_true_eq]
  exact ⟨by show (-2 ^ 63 : Int) ≤ _; omega, by show _ ≤ (2 ^ 63 - 1 : Int); omega⟩
theorem flat_u8 (l : List Int) : (encI .u8).flat l = l.map (.int .u8) := flat_one' (encI .u8) (Value.int .u8) (fun _ => rfl) l
theorem kv_get {m : Nat} (k : Kv m) {j : Nat} (h : j < m) : k.c[1 + j]? = some (.int .u8 (k.b.getD j 0)) := by
  rw [Nat.add_comm]
  have hj : j < k.b.length := by rw [k.len]; exact h
  simp [Kv.c, List.getD_eq_getElem?_getD, hj]
/-- Is it a key? -/
def kck (k : Kv 8) : Bool := decide (0 ≤ k.n ∧ k.n ≤ 8 ∧ ∀ i : Nat, i < 8 → k.n ≤ (i : Int) → k.b.getD i 0 = 0)
theorem kck_lo {k : Kv 8} (h : k.n < 0) : kck k = false := decide_eq_false (fun x => by omega)
theorem kck_hi {k : Kv 8} (h : 8 < k.n) : kck k = false := decide_eq_false (fun x => by omega)
theorem kck_no {k : Kv 8} {i : Nat} (h : i < 8) (hn : k.n ≤ (i : Int)) (hb : ¬ k.b.getD i 0 = 0) : kck k = false := decide_eq_false (fun q => hb (q.2.2 i h hn))
theorem kck_yes {k : Kv 8} {m : Nat} (hm : k.n = (m : Int)) (h8 : m ≤ 8) (hz : ∀ j, m ≤ j → j < 8 → k.b.getD j 0 = 0) : kck k = true := decide_eq_true ⟨by omega, by omega, fun i h1 h2 => hz i (by omega) h1⟩
theorem kv_whole {m : Nat} (k : Kv m) : (k.c.drop 0).take (m + 1) = k.c := List.take_of_length_le (by rw [List.drop_zero, Kv.c_len]; exact Nat.le_refl _)
/-- The key of the first n bytes. -/
def kcut (k : Kv 8) (n : Nat) (h : n ≤ 8) : Kv 8 := ⟨n, k.b.take n ++ List.replicate (8 - n) 0, by simp [k.len]; omega, wf_n8 (by omega), fun x hx => by
  rcases List.mem_append.1 hx with hx | hx
  · exact k.wb x (List.mem_of_mem_take hx)
  · rw [(List.mem_replicate.1 hx).2]; decide⟩
theorem kcut_eq (k : Kv 8) {n : Nat} (hn : k.n = (n : Int)) (h : n ≤ 8) : decide (kcut k n h = k) = kck k := by
  unfold kck
  rw [decide_eq_decide]
  have hlen : (k.b.take n ++ List.replicate (8 - n) 0).length = 8 := by simp [k.len]; omega
  constructor
  · intro e
    refine ⟨by omega, by omega, fun i hi hni => ?_⟩
    have hb : k.b = k.b.take n ++ List.replicate (8 - n) 0 := (congrArg Kv.b e).symm
    rw [hb, List.getD_eq_getElem?_getD, List.getElem?_append_right (by simp; omega), List.getElem?_replicate]
    split <;> rfl
  · rintro ⟨_, _, hz⟩
    have hl : k.b.take n ++ List.replicate (8 - n) 0 = k.b := List.ext_getElem (by rw [k.len]; exact hlen) (fun i h1 h2 => by
      have hi : i < 8 := by rw [← k.len]; exact h2
      rcases Nat.lt_or_ge i n with hin | hin
      · rw [List.getElem_append_left (by simp; omega), List.getElem_take]
      · rw [List.getElem_append_right (by simp; omega), List.getElem_replicate]
        have := hz i hi (by omega)
        rw [List.getD_eq_getElem?_getD, List.getElem?_eq_getElem h2] at this
        exact this.symm)
    exact Kv.ext' hn.symm hl
/-- A number, and no bytes. -/
def kz (m : Nat) (n : Int) (h : (Lit.int .i64 n).wf = true) : Kv m := ⟨n, List.replicate m 0, by simp, h, fun x h => by rw [(List.mem_replicate.1 h).2]; decide⟩
theorem kcopy (k : Kv 8) {n : Nat} (h : n ≤ 8) : Sep.splice (.int .i64 (n : Int) :: List.replicate 8 (.int .u8 0)) 1 ((encI .u8).flat (k.b.take (min k.b.length n))) = (kcut k n h).c := by
  have hm : min k.b.length n = n := by rw [k.len]; omega
  have hl : (k.b.take n).length = n := by simp [k.len]; omega
  rw [hm, flat_u8, Sep.splice_eq _ _ _ (by simp [k.len]; omega)]
  simp only [List.length_map, hl, Kv.c, kcut, List.map_append, List.map_replicate]
  rw [Nat.add_comm 1 n, List.take_succ_cons, List.take_zero, List.drop_succ_cons, List.drop_replicate]
  rfl

section
variable {n : Nat} {L : Env} {X : World → Prop} {o : Oper}
theorem q_eqK {u : TypeId} {x y : Operand} (k j : Kv 8) (ho : o.op = .binOp .eql 24 x y u) (hx : ev L x = some (.agg k.c.toArray)) (hy : ev L y = some (.agg j.c.toArray)) : QOp Try.prog n L X o (.bool (decide (k = j))) :=
  q_eqAgg (d := 3) (ks := Kv.ks 8) _ (by kernel_rfl) (by kernel_rfl) (by decide) (by kernel_rfl) (by kernel_rfl) (by kernel_rfl) ho hx hy (Kv.kinds k) (Kv.kinds j) Kv.eqb
theorem q_neK {u : TypeId} {x y : Operand} (k j : Kv 8) (ho : o.op = .binOp .neq 24 x y u) (hx : ev L x = some (.agg k.c.toArray)) (hy : ev L y = some (.agg j.c.toArray)) : QOp Try.prog n L X o (.bool (!decide (k = j))) :=
  q_neAgg (d := 3) (ks := Kv.ks 8) _ (by kernel_rfl) (by kernel_rfl) (by decide) (by kernel_rfl) (by kernel_rfl) (by kernel_rfl) ho hx hy (Kv.kinds k) (Kv.kinds j) Kv.eqb
end
/-- A key as a map's key. -/
abbrev kfK (k : Kv 8) : Value := .agg ((Kv.enc 8).f k).toArray
theorem keyK : KeyOk Try.prog 24 kfK :=
  keyOk_agg (E := Kv.enc 8) (d := 3) (ks := Kv.ks 8) (by kernel_rfl) (by kernel_rfl) (by decide) (by kernel_rfl) (by kernel_rfl) (fun k => Kv.kinds k) (fun a x h => Kv.c_inj.1 h) (fun k => sameBits_ints _ (fun v hv => by
    rcases List.mem_cons.1 (show v ∈ Kv.c k from hv) with rfl | h
    · exact ⟨_, _, rfl⟩
    · obtain ⟨z, _, rfl⟩ := List.mem_map.1 h; exact ⟨_, _, rfl⟩))
def kv0 (m : Nat) : Kv m := ⟨0, List.replicate m 0, by simp, by decide, fun x h => by rw [(List.mem_replicate.1 h).2]; decide⟩
/-! ## Text -/
def byt (s : ByteArray) : List Int := s.data.toList.map (fun b => (b.toNat : Int))
theorem byt_len (s : ByteArray) : (byt s).length = s.size := by unfold byt; rw [List.length_map, Array.length_toList]; rfl
def Byte (x : Int) : Prop := 0 ≤ x ∧ x ≤ 255
theorem byt_byte {s : ByteArray} {x : Int} (h : x ∈ byt s) : Byte x := by
  obtain ⟨b, _, rfl⟩ := List.mem_map.1 h
  have := b.toNat_lt
  exact ⟨by omega, by omega⟩
theorem wf_byte {x : Int} (h : Byte x) : (Lit.int .u8 x).wf = true := by
  simp only [Lit.wf, Bool.and_eq_true, decide_eq_true_eq]; exact h
theorem byte_wf {x : Int} (h : (Lit.int .u8 x).wf = true) : Byte x := wf_u8 h
theorem str_byt (s : ByteArray) : strOfNums (byt s) = s := by
  obtain ⟨⟨l⟩⟩ := s
  unfold strOfNums byt
  congr 2
  simp only [List.map_map]
  refine (List.map_congr_left (fun b _ => ?_)).trans (List.map_id _)
  simp
/-- A key out of a text. -/
def kmk (t : List Int) (hl : t.length ≤ 8) (hb : ∀ x ∈ t, Byte x) : Kv 8 := ⟨t.length, t ++ List.replicate (8 - t.length) 0, by simp; omega, wf_n8 (by omega), fun x hx => by
  rcases List.mem_append.1 hx with hx | hx
  · exact wf_byte (hb x hx)
  · rw [(List.mem_replicate.1 hx).2]; decide⟩
theorem kmk_ck (t : List Int) (hl : t.length ≤ 8) (hb : ∀ x ∈ t, Byte x) : kck (kmk t hl hb) = true := by
  refine kck_yes (m := t.length) rfl hl (fun j h1 h2 => ?_)
  show (t ++ List.replicate (8 - t.length) 0).getD j 0 = 0
  rw [List.getD_eq_getElem?_getD, List.getElem?_append_right h1, List.getElem?_replicate]
  split <;> rfl
def kof (s : ByteArray) (h : s.size ≤ 8) : Kv 8 := kmk (byt s) (by rw [byt_len]; exact h) (fun x hx => byt_byte hx)
/-- A key's text. -/
def tx (k : Kv 8) : List Int := if kck k then k.b.take k.n.toNat else []
theorem kck_parts {k : Kv 8} (h : kck k = true) : ∃ m : Nat, k.n = (m : Int) ∧ m ≤ 8 ∧ tx k = k.b.take m ∧ (tx k).length = m ∧ k.b = tx k ++ List.replicate (8 - m) 0 := by
  have h0 := h
  unfold kck at h
  obtain ⟨h1, h2, h3⟩ := of_decide_eq_true h
  refine ⟨k.n.toNat, by omega, by omega, by unfold tx; rw [h0]; rfl, by unfold tx; rw [h0]; simp [k.len]; omega, ?_⟩
  have ht : tx k = k.b.take k.n.toNat := by unfold tx; rw [h0]; rfl
  rw [ht]
  refine List.ext_getElem (by simp [k.len]; omega) (fun i g1 g2 => ?_)
  have hi : i < 8 := by rw [← k.len]; exact g1
  rcases Nat.lt_or_ge i k.n.toNat with hin | hin
  · rw [List.getElem_append_left (by simp; omega), List.getElem_take]
  · rw [List.getElem_append_right (by simp; omega), List.getElem_replicate]
    have := h3 i hi (by omega)
    rw [List.getD_eq_getElem?_getD, List.getElem?_eq_getElem g1] at this
    exact this
theorem tx_byte {k : Kv 8} {x : Int} (h : x ∈ tx k) : Byte x := by
  unfold tx at h
  split at h
  · exact byte_wf (k.wb x (List.mem_of_mem_take h))
  · cases h
theorem tx_len (k : Kv 8) : (tx k).length ≤ 8 := by
  unfold tx
  split
  · simp [k.len]; omega
  · exact Nat.zero_le _
theorem tx_kmk (t : List Int) (hl : t.length ≤ 8) (hb : ∀ x ∈ t, Byte x) : tx (kmk t hl hb) = t := by
  unfold tx
  rw [kmk_ck]
  show (t ++ List.replicate (8 - t.length) 0).take ((t.length : Int)).toNat = t
  simp
theorem tx_kof (s : ByteArray) (h : s.size ≤ 8) : tx (kof s h) = byt s := tx_kmk _ _ _
theorem key_ext {a b : Kv 8} (ha : kck a = true) (hb : kck b = true) (h : tx a = tx b) : a = b := by
  obtain ⟨m, h1, _, _, h2, h3⟩ := kck_parts ha
  obtain ⟨k, g1, _, _, g2, g3⟩ := kck_parts hb
  have e : m = k := by rw [← h2, ← g2, h]
  subst e
  exact Kv.ext' (by rw [h1, g1]) (by rw [h3, g3, h])
theorem kmk_tx {k : Kv 8} (h : kck k = true) : kmk (tx k) (tx_len k) (fun x hx => tx_byte hx) = k := key_ext (kmk_ck _ _ _) h (tx_kmk _ _ _)
/-! ## Which is less -/
def lexI : List Int → List Int → Int
  | [], [] => 0
  | [], _ :: _ => -1
  | _ :: _, [] => 1
  | x :: xs, y :: ys => if x < y then -1 else if y < x then 1 else lexI xs ys
theorem lex_cmp : ∀ (l m : List Int), (∀ x ∈ l, Byte x) → (∀ x ∈ m, Byte x) → Lib.compareBytes (l.map fun n => UInt8.ofNat n.toNat) (m.map fun n => UInt8.ofNat n.toNat) = lexI l m
  | [], [], _, _ => rfl
  | [], _ :: _, _, _ => rfl
  | _ :: _, [], _, _ => rfl
  | x :: xs, y :: ys, hx, hy => by
    have h1 := hx x (List.mem_cons_self ..)
    have h2 := hy y (List.mem_cons_self ..)
    unfold Byte at h1 h2
    have hlt : ∀ {a b : Int}, 0 ≤ a → a ≤ 255 → 0 ≤ b → b ≤ 255 → ((UInt8.ofNat a.toNat < UInt8.ofNat b.toNat) ↔ a < b) := fun {a b} h1 h2 h3 h4 => by
      have e : ∀ n : Nat, (UInt8.ofNat n).toNat = n % 256 := fun n => by simp
      rw [UInt8.lt_iff_toNat_lt, e, e]
      omega
    have e1 := hlt h1.1 h1.2 h2.1 h2.2
    have e2 := hlt h2.1 h2.2 h1.1 h1.2
    simp only [List.map_cons, Lib.compareBytes, lexI, e1, e2]
    rw [lex_cmp xs ys (fun z hz => hx z (List.mem_cons_of_mem _ hz)) (fun z hz => hy z (List.mem_cons_of_mem _ hz))]
theorem lex_self : ∀ l : List Int, lexI l l = 0
  | [] => rfl
  | x :: l => by simp [lexI, lex_self l]
theorem lex_neg : ∀ l m : List Int, lexI m l = -lexI l m
  | [], [] => rfl
  | [], _ :: _ => rfl
  | _ :: _, [] => rfl
  | x :: xs, y :: ys => by
    simp only [lexI]
    by_cases h1 : x < y
    · have : ¬ y < x := by omega
      simp [h1, this]
    · by_cases h2 : y < x
      · simp [h1, h2]
      · simp [h1, h2, lex_neg xs ys]
theorem lex_zero : ∀ {l m : List Int}, lexI l m = 0 → l = m
  | [], [], _ => rfl
  | [], _ :: _, h => by cases h
  | _ :: _, [], h => by cases h
  | x :: xs, y :: ys, h => by
    simp only [lexI] at h
    split at h
    · cases h
    · split at h
      · cases h
      · rw [lex_zero h, show x = y by omega]
theorem lex_range : ∀ l m : List Int, lexI l m = -1 ∨ lexI l m = 0 ∨ lexI l m = 1
  | [], [] => .inr (.inl rfl)
  | [], _ :: _ => .inl rfl
  | _ :: _, [] => .inr (.inr rfl)
  | x :: xs, y :: ys => by
    simp only [lexI]
    split
    · exact .inl rfl
    · split
      · exact .inr (.inr rfl)
      · exact lex_range xs ys
theorem lex_trans : ∀ {a b c : List Int}, lexI a b ≤ 0 → lexI b c ≤ 0 → lexI a c ≤ 0
  | [], _, [], _, _ => by simp [lexI]
  | [], _, _ :: _, _, _ => by simp [lexI]
  | _ :: _, [], _, h, _ => by simp [lexI] at h
  | _ :: _, _ :: _, [], _, h => by simp [lexI] at h
  | x :: xs, y :: ys, z :: zs, h1, h2 => by
    simp only [lexI] at h1 h2 ⊢
    by_cases a1 : x < y
    · by_cases b1 : y < z
      · simp [show x < z by omega]
      · by_cases b2 : z < y
        · simp [b1, b2] at h2
        · simp [show x < z by omega]
    · by_cases a2 : y < x
      · simp [a1, a2] at h1
      · by_cases b1 : y < z
        · simp [show x < z by omega]
        · by_cases b2 : z < y
          · simp [b1, b2] at h2
          · simp [a1, a2] at h1
            simp [b1, b2] at h2
            simp [show ¬ x < z by omega, show ¬ z < x by omega]
            exact lex_trans h1 h2
theorem lex_trans' {a b c : List Int} (h1 : lexI a b < 0) (h2 : lexI b c ≤ 0) : lexI a c < 0 := by
  have := lex_trans (Int.le_of_lt h1) h2
  rcases Int.lt_or_eq_of_le this with h | h
  · exact h
  · have e := lex_zero h
    subst e
    have := lex_neg a b
    omega
def kcmp (a b : Kv 8) : Int := lexI (tx a) (tx b)
/-! ## The next one -/
def nx : List Int → Option (List Int)
  | [] => none
  | x :: l => match nx l with
    | some t => some (x :: t)
    | none => if x < 255 then some [x + 1] else none
def tn (t : List Int) : Option (List Int) := if t.length < 8 then some (t ++ [0]) else nx t
theorem nx_none : ∀ {l : List Int}, (∀ x ∈ l, x = 255) → nx l = none
  | [], _ => rfl
  | x :: l, h => by
    simp only [nx, nx_none (fun z hz => h z (List.mem_cons_of_mem _ hz))]
    rw [h x (List.mem_cons_self ..)]; rfl
theorem nx_at : ∀ {l : List Int} {i : Nat} {x : Int}, l[i]? = some x → x < 255 → (∀ j y, i < j → l[j]? = some y → y = 255) → nx l = some (l.take i ++ [x + 1])
  | [], i, x, h, _, _ => by simp at h
  | z :: l, 0, x, h, hx, hl => by
    simp at h
    subst h
    have : nx l = none := nx_none (fun y hy => by
      obtain ⟨j, hj, e⟩ := List.getElem_of_mem hy
      exact hl (j + 1) y (by omega) (by simp [hj, e]))
    simp only [nx, this, if_pos hx]; rfl
  | z :: l, i + 1, x, h, hx, hl => by
    have h' : l[i]? = some x := by simpa using h
    have ih := nx_at h' hx (fun j y hj hy => hl (j + 1) y (by omega) (by simpa using hy))
    simp only [nx, ih]; rfl
/-- What the next one is to tell. -/
def NextOf (a : Kv 8) (z : Kv 8 × Bool) : Prop := (z.2 = true ∧ kck z.1 = true ∧ tn (tx a) = some (tx z.1)) ∨ (z.2 = false ∧ z.1 = kv0 8 ∧ tn (tx a) = none)
theorem NextOf.eq {a : Kv 8} {y z : Kv 8 × Bool} (h1 : NextOf a y) (h2 : NextOf a z) : y = z := by
  obtain ⟨y1, y2⟩ := y
  obtain ⟨z1, z2⟩ := z
  rcases h1 with ⟨rfl, a1, b1⟩ | ⟨rfl, a1, b1⟩ <;> rcases h2 with ⟨rfl, a2, b2⟩ | ⟨rfl, a2, b2⟩
  · have e := key_ext a1 a2 (by rw [b1] at b2; exact Option.some.inj b2)
    simp only at e; rw [e]
  · rw [b1] at b2; cases b2
  · rw [b1] at b2; cases b2
  · simp only at a1 a2; rw [a1, a2]

end Go.Proofs.Ytaojcncmbbgmcaa
