/- keys: plain facts -/
import Derived.Test.YtaojcncmbbgmcaaW
set_option linter.unusedVariables false
set_option linter.unusedSimpArgs false
namespace Go.Proofs.Ytaojcncmbbgmcaa
open Go.Sep Go.RowKit

theorem byt_map (s : ByteArray) : (byt s).map (fun n => UInt8.ofNat n.toNat) = s.data.toList := by
  unfold byt
  rw [List.map_map]
  refine (List.map_congr_left (fun b _ => ?_)).trans (List.map_id _)
  simp
theorem kcmp_kof (s t : ByteArray) (hs : s.size ≤ 8) (ht : t.size ≤ 8) : kcmp (kof s hs) (kof t ht) = Lib.compareBytes s.data.toList t.data.toList := by
  unfold kcmp
  rw [tx_kof, tx_kof, ← lex_cmp _ _ (fun x hx => byt_byte hx) (fun x hx => byt_byte hx), byt_map, byt_map]
theorem less_cmp : ∀ l m : List UInt8, Op.bytesLess l m = decide (Lib.compareBytes l m < 0)
  | [], [] => rfl
  | [], _ :: _ => rfl
  | _ :: _, [] => rfl
  | x :: l, y :: m => by
    simp only [Op.bytesLess, Lib.compareBytes, less_cmp l m]
    by_cases h1 : x < y
    · simp [h1]
    · by_cases h2 : y < x
      · have : ¬ x = y := fun e => by subst e; exact h1 h2
        simp [h1, h2, this]
      · have e : x = y := by
          rw [UInt8.lt_iff_toNat_lt] at h1 h2
          exact UInt8.toNat_inj.1 (by omega)
        subst e
        simp [h1]
theorem cmp_zero (s t : ByteArray) : Lib.compareBytes s.data.toList t.data.toList = 0 ↔ s = t := by
  constructor
  · intro h
    rw [← byt_map, ← byt_map, lex_cmp _ _ (fun x hx => byt_byte hx) (fun x hx => byt_byte hx)] at h
    have := lex_zero h
    rw [← str_byt s, ← str_byt t, this]
  · rintro rfl
    rw [← byt_map, lex_cmp _ _ (fun x hx => byt_byte hx) (fun x hx => byt_byte hx)]; exact lex_self _
theorem list_data (s : ByteArray) : s.toList = s.data.toList := ByteArray.toList_eq s
theorem beq_str (s t : ByteArray) : (s.toList == t.toList) = decide (s = t) := by
  rw [list_data, list_data, Bool.eq_iff_iff, beq_iff_eq, decide_eq_true_eq]
  exact ⟨fun h => ByteArray.ext (Array.toList_inj.1 h), fun h => by rw [h]⟩
section
variable {P : Program} {n : Nat} {L : Env} {X : World → Prop} {o : Oper}
theorem q_lssS {t u : TypeId} {x y : Operand} {p q : ByteArray} (ho : o.op = .binOp .lss t x y u) (hx : ev L x = some (.string p)) (hy : ev L y = some (.string q)) : QOp P n L X o (.bool (decide (Lib.compareBytes p.data.toList q.data.toList < 0))) :=
  q_bin ho hx hy (fun w _ => by
    have h : (binOp .lss t (.string p) (.string q)).run P w = .ok (.bool (Op.bytesLess p.toList q.toList)) w := by rw [binOp_string_lss]; rfl
    rw [less_cmp, list_data, list_data] at h
    exact run_both rfl h)
theorem q_gtrS {t u : TypeId} {x y : Operand} {p q : ByteArray} (ho : o.op = .binOp .gtr t x y u) (hx : ev L x = some (.string p)) (hy : ev L y = some (.string q)) : QOp P n L X o (.bool (decide (0 < Lib.compareBytes p.data.toList q.data.toList))) :=
  q_bin ho hx hy (fun w _ => by
    have h : (binOp .gtr t (.string p) (.string q)).run P w = .ok (.bool !(Op.bytesLess p.toList q.toList || p.toList == q.toList)) w := by simp [binOp, Op.stringOp]
    have e : (!(Op.bytesLess p.toList q.toList || p.toList == q.toList)) = decide (0 < Lib.compareBytes p.data.toList q.data.toList) := by
      rw [less_cmp, beq_str, list_data, list_data]
      have hz := cmp_zero p q
      generalize Lib.compareBytes p.data.toList q.data.toList = c at hz ⊢
      rw [Bool.eq_iff_iff]
      simp only [Bool.not_eq_true', Bool.or_eq_false_iff, decide_eq_false_iff_not, decide_eq_true_eq]
      rw [← hz]; omega
    rw [e] at h
    exact run_both rfl h)
end
/-! ## The next one is the least above -/
theorem nx_all : ∀ {l : List Int}, (∀ x ∈ l, Byte x) → nx l = none → ∀ x ∈ l, x = 255
  | [], _, _, x, h => by cases h
  | y :: l, hb, h, x, hx => by
    simp only [nx] at h
    cases hn : nx l with
    | some t => rw [hn] at h; cases h
    | none =>
      rw [hn] at h
      have hy : y = 255 := by
        have := (hb y (List.mem_cons_self ..)).2
        by_cases h2 : y < 255
        · simp [h2] at h
        · omega
      rcases List.mem_cons.1 hx with rfl | hx
      · exact hy
      · exact nx_all (fun z hz => hb z (List.mem_cons_of_mem _ hz)) hn x hx
theorem lex_max : ∀ (m l : List Int), (∀ x ∈ m, Byte x) → (∀ x ∈ l, x = 255) → m.length ≤ l.length → lexI m l ≤ 0
  | [], [], _, _, _ => by simp [lexI]
  | [], _ :: _, _, _, _ => by simp [lexI]
  | _ :: _, [], _, _, h => by simp at h
  | y :: m, x :: l, hm, hl, h => by
    have h1 := (hm y (List.mem_cons_self ..)).2
    have h2 := hl x (List.mem_cons_self ..)
    have ih := lex_max m l (fun z hz => hm z (List.mem_cons_of_mem _ hz)) (fun z hz => hl z (List.mem_cons_of_mem _ hz)) (by simpa using h)
    simp only [lexI]
    split
    · decide
    · split
      · omega
      · exact ih
theorem lex_nil (r : List Int) : lexI [] r ≤ 0 := by cases r <;> simp [lexI]
theorem nx_least : ∀ {t t' : List Int}, (∀ x ∈ t, Byte x) → nx t = some t' → lexI t t' < 0 ∧ ∀ m, m.length ≤ t.length → (∀ x ∈ m, Byte x) → lexI t m < 0 → lexI t' m ≤ 0
  | [], _, _, h => by cases h
  | x :: l, t', hb, h => by
    simp only [nx] at h
    have hbl : ∀ y ∈ l, Byte y := fun y hy => hb y (List.mem_cons_of_mem _ hy)
    cases hn : nx l with
    | some l' =>
      rw [hn] at h
      cases h
      obtain ⟨i1, i2⟩ := nx_least hbl hn
      refine ⟨by simp [lexI]; exact i1, fun m hm hmb hlt => ?_⟩
      cases m with
      | nil => simp [lexI] at hlt
      | cons y r =>
        simp only [lexI] at hlt ⊢
        split
        · decide
        · rename_i h1
          split
          · rename_i h2; simp [h1, h2] at hlt
          · rename_i h2
            simp [h1, h2] at hlt
            exact i2 r (by simpa using hm) (fun z hz => hmb z (List.mem_cons_of_mem _ hz)) hlt
    | none =>
      rw [hn] at h
      by_cases hx : x < 255
      · simp [hx] at h
        subst h
        have hall := nx_all hbl hn
        refine ⟨by simp [lexI]; omega, fun m hm hmb hlt => ?_⟩
        cases m with
        | nil => simp [lexI] at hlt
        | cons y r =>
          simp only [lexI] at hlt ⊢
          by_cases h1 : x < y
          · split
            · decide
            · split
              · omega
              · exact lex_nil r
          · by_cases h2 : y < x
            · simp [h1, h2] at hlt
            · simp [h1, h2] at hlt
              have h3 := lex_max r l (fun z hz => hmb z (List.mem_cons_of_mem _ hz)) hall (by simpa using hm)
              have := lex_neg r l
              omega
      · simp [hx] at h
theorem app_least : ∀ (t m : List Int), (∀ x ∈ m, Byte x) → lexI t m < 0 → lexI (t ++ [0]) m ≤ 0
  | [], [], _, h => by simp [lexI] at h
  | [], y :: r, hm, _ => by
    have := (hm y (List.mem_cons_self ..)).1
    simp only [List.nil_append, lexI]
    split
    · decide
    · split
      · omega
      · exact lex_nil r
  | _ :: _, [], _, h => by simp [lexI] at h
  | x :: t, y :: r, hm, h => by
    simp only [List.cons_append, lexI] at h ⊢
    split
    · decide
    · rename_i h1
      split
      · rename_i h2; simp [h1, h2] at h
      · rename_i h2
        simp [h1, h2] at h
        exact app_least t r (fun z hz => hm z (List.mem_cons_of_mem _ hz)) h
theorem app_above : ∀ t : List Int, lexI t (t ++ [0]) < 0
  | [] => by simp [lexI]
  | x :: t => by simp [lexI]; exact app_above t
/-- What Next tells is the least key above. -/
theorem next_facts {a b : Kv 8} {z : Kv 8 × Bool} (ha : kck a = true) (h : NextOf a z) :
    (z.2 = true → kck z.1 = true ∧ kcmp a z.1 < 0 ∧ (kcmp a b < 0 → kcmp z.1 b ≤ 0)) ∧ (z.2 = false → z.1 = kv0 8 ∧ kcmp b a ≤ 0) ∧ (z.2 = false ↔ a.n = 8 ∧ ∀ j, j < 8 → a.b.getD j 0 = 255) := by
  obtain ⟨m, hm, hm8, hta, htl, htb⟩ := kck_parts ha
  have hbyte : ∀ x ∈ tx a, Byte x := fun x hx => tx_byte hx
  have hbb : ∀ x ∈ tx b, Byte x := fun x hx => tx_byte hx
  have hfull : (a.n = 8 ∧ ∀ j, j < 8 → a.b.getD j 0 = 255) → tn (tx a) = none := fun h => next_no ha h.1 h.2
  have hback : tn (tx a) = none → (a.n = 8 ∧ ∀ j, j < 8 → a.b.getD j 0 = 255) := fun h => by
    unfold tn at h
    by_cases h8 : (tx a).length < 8
    · rw [if_pos h8] at h; cases h
    · rw [if_neg h8] at h
      have hn : a.n = 8 := by omega
      refine ⟨hn, fun j hj => ?_⟩
      have hall := nx_all hbyte h
      rw [key8 ha hn] at hall
      rw [List.getD_eq_getElem?_getD, List.getElem?_eq_getElem (by rw [a.len]; exact hj)]
      exact hall _ (List.getElem_mem _)
  have hsome : ∀ {t'}, tn (tx a) = some t' → lexI (tx a) t' < 0 ∧ (lexI (tx a) (tx b) < 0 → lexI t' (tx b) ≤ 0) := fun {t'} h => by
    unfold tn at h
    by_cases h8 : (tx a).length < 8
    · rw [if_pos h8] at h; cases h
      exact ⟨app_above _, app_least _ _ hbb⟩
    · rw [if_neg h8] at h
      obtain ⟨h1, h2⟩ := nx_least hbyte h
      exact ⟨h1, h2 (tx b) (by have := tx_len b; omega) hbb⟩
  rcases h with ⟨h1, h2, h3⟩ | ⟨h1, h2, h3⟩
  · refine ⟨fun _ => ⟨h2, (hsome h3).1, (hsome h3).2⟩, fun hf => (by rw [h1] at hf; cases hf), ⟨fun hf => (by rw [h1] at hf; cases hf), fun hf => ?_⟩⟩
    rw [hfull hf] at h3; cases h3
  · refine ⟨fun hf => (by rw [h1] at hf; cases hf), fun _ => ⟨h2, ?_⟩, ⟨fun _ => hback h3, fun _ => h1⟩⟩
    obtain ⟨hn, hall⟩ := hback h3
    have ht := key8 ha hn
    unfold kcmp
    refine lex_max _ _ hbb (fun x hx => ?_) (by have := tx_len b; rw [ht, a.len]; exact this)
    rw [ht] at hx
    obtain ⟨j, hj, e⟩ := List.getElem_of_mem hx
    have := hall j (by rw [← a.len]; exact hj)
    rw [List.getD_eq_getElem?_getD, List.getElem?_eq_getElem hj] at this
    rw [← e]; exact this
/-- Is it nothing but greatest bytes, so far? -/
def lastB (k : Kv 8) (i : Nat) : Bool := decide (k.n = 8) && (List.range i).all (fun j => decide (k.b.getD j 0 = 255))
theorem last_succ (k : Kv 8) (i : Nat) : lastB k (i + 1) = (lastB k i && decide (k.b.getD i 0 = 255)) := by
  unfold lastB; rw [List.range_succ, List.all_append]; simp [Bool.and_assoc]
theorem last_iff (k : Kv 8) : lastB k 8 = true ↔ k.n = 8 ∧ ∀ j, j < 8 → k.b.getD j 0 = 255 := by
  unfold lastB; simp [List.all_eq_true]

end Go.Proofs.Ytaojcncmbbgmcaa
