/- keys: Kinds, Order -/
import Derived.Test.YtaojcncmbbgmcaaSrt
set_option linter.unusedVariables false
set_option linter.unusedSimpArgs false
namespace Go.Proofs.Ytaojcncmbbgmcaa
open Go.Sep Go.RowKit

/-! ## Each once -/
abbrev vU : Unit → Value := fun _ => .bool true
/-- A set of keys in memory. -/
abbrev setE (b : Nat) (o : List (Kv 8)) : Ent := mapE b kfK vU (o.map (fun a => (a, ())))
def add1 (o : List (Kv 8)) (a : Kv 8) : List (Kv 8) := if a ∈ o then o else o ++ [a]
def dd (l : List (Kv 8)) : List (Kv 8) := l.foldl add1 []
theorem mput_set (a : Kv 8) : ∀ o : List (Kv 8), mput a () (o.map (fun a => (a, ()))) = (add1 o a).map (fun a => (a, ()))
  | [] => rfl
  | x :: o => by
    have ih := mput_set a o
    simp only [List.map_cons, mput]
    unfold add1 at ih ⊢
    by_cases h : a = x
    · subst h; simp
    · rw [if_neg h, ih]
      by_cases hm : a ∈ o
      · simp [hm]
      · simp [hm, h]
theorem mget_set (a : Kv 8) : ∀ o : List (Kv 8), (mget a (o.map (fun a => (a, ())))).isSome = decide (a ∈ o)
  | [] => rfl
  | x :: o => by
    simp only [List.map_cons, mget]
    by_cases h : a = x
    · subst h; simp
    · rw [if_neg h, mget_set a o]; simp [h]
theorem look_set (a : Kv 8) (o : List (Kv 8)) : (match mget a (o.map (fun a => (a, ()))) with | some y => vU y | none => Value.bool false) = .bool (decide (a ∈ o)) := by
  rw [← mget_set]; cases mget a (o.map (fun a => (a, ()))) <;> rfl
theorem dd_snoc (l : List (Kv 8)) (a : Kv 8) : dd (l ++ [a]) = add1 (dd l) a := by simp [dd]
theorem add1_mem {o : List (Kv 8)} {a x : Kv 8} : x ∈ add1 o a ↔ x = a ∨ x ∈ o := by
  unfold add1; split
  · rename_i h; exact ⟨fun hx => .inr hx, fun hx => by rcases hx with rfl | hx; exact h; exact hx⟩
  · simp [or_comm]
theorem add1_nodup {o : List (Kv 8)} (h : o.Nodup) (a : Kv 8) : (add1 o a).Nodup := by
  unfold add1; split
  · exact h
  · rename_i hn
    rw [List.nodup_append]
    exact ⟨h, by simp, fun x hx y hy e => by simp at hy; subst hy; exact hn (e ▸ hx)⟩
theorem dd_prop : ∀ (l o : List (Kv 8)), o.Nodup → (l.foldl add1 o).Nodup ∧ ∀ x, x ∈ l.foldl add1 o ↔ x ∈ l ∨ x ∈ o
  | [], o, h => ⟨h, fun x => by simp⟩
  | a :: l, o, h => by
    obtain ⟨h1, h2⟩ := dd_prop l (add1 o a) (add1_nodup h a)
    refine ⟨h1, fun x => ?_⟩
    rw [List.foldl_cons, h2, add1_mem, List.mem_cons]
    exact ⟨fun h => by rcases h with h | h | h; exact .inl (.inr h); exact .inl (.inl h); exact .inr h, fun h => by rcases h with (h | h) | h; exact .inr (.inl h); exact .inl h; exact .inr (.inr h)⟩
theorem dd_nodup (l : List (Kv 8)) : (dd l).Nodup := (dd_prop l [] List.nodup_nil).1
theorem dd_mem {l : List (Kv 8)} {x : Kv 8} : x ∈ dd l ↔ x ∈ l := by have := (dd_prop l [] List.nodup_nil).2 x; simpa [dd] using this
theorem dd_len (l : List (Kv 8)) : (dd l).length ≤ l.length := by
  have : ∀ (l o : List (Kv 8)), (l.foldl add1 o).length ≤ l.length + o.length := by
    intro l
    induction l with
    | nil => intro o; simp
    | cons a l ih =>
      intro o
      have := ih (add1 o a)
      have h2 : (add1 o a).length ≤ o.length + 1 := by unfold add1; split <;> simp
      rw [List.foldl_cons, List.length_cons]; omega
  simpa [dd] using this l []
/-! ## In order -/
def Rise (l : List (Kv 8)) : Prop := l.Pairwise (fun x y => kcmp x y < 0)
theorem kcmp_anti {x y : Kv 8} (h1 : kcmp x y < 0) (h2 : kcmp y x < 0) : False := by
  have := lex_neg (tx x) (tx y); unfold kcmp at h1 h2; omega
theorem kcmp_irr {x : Kv 8} : ¬ kcmp x x < 0 := by unfold kcmp; rw [lex_self]; omega
theorem kcmp_eq {x y : Kv 8} (hx : kck x = true) (hy : kck y = true) (h1 : ¬ kcmp x y < 0) (h2 : ¬ kcmp y x < 0) : x = y := by
  have := lex_neg (tx x) (tx y)
  unfold kcmp at h1 h2
  exact key_ext hx hy (lex_zero (by omega))
theorem kcmp_tr {x y z : Kv 8} (h1 : kcmp x y < 0) (h2 : kcmp y z < 0) : kcmp x z < 0 := lex_trans' h1 (Int.le_of_lt h2)
theorem rise_eq : ∀ {l m : List (Kv 8)}, Rise l → Rise m → (∀ x, x ∈ l ↔ x ∈ m) → l = m
  | [], [], _, _, _ => rfl
  | [], y :: m, _, _, h => absurd ((h y).2 (List.mem_cons_self ..)) List.not_mem_nil
  | x :: l, [], _, _, h => absurd ((h x).1 (List.mem_cons_self ..)) List.not_mem_nil
  | x :: l, y :: m, hl, hm, h => by
    have h1 := List.pairwise_cons.1 hl
    have h2 := List.pairwise_cons.1 hm
    have e : x = y := by
      rcases List.mem_cons.1 ((h x).1 (List.mem_cons_self ..)) with e | hx
      · exact e
      · rcases List.mem_cons.1 ((h y).2 (List.mem_cons_self ..)) with e | hy
        · exact e.symm
        · exact (kcmp_anti (h1.1 y hy) (h2.1 x hx)).elim
    subst e
    congr 1
    refine rise_eq h1.2 h2.2 (fun z => ⟨fun hz => ?_, fun hz => ?_⟩)
    · rcases List.mem_cons.1 ((h z).1 (List.mem_cons_of_mem _ hz)) with e | hz'
      · exact (kcmp_irr (e ▸ h1.1 z hz)).elim
      · exact hz'
    · rcases List.mem_cons.1 ((h z).2 (List.mem_cons_of_mem _ hz)) with e | hz'
      · exact (kcmp_irr (e ▸ h2.1 z hz)).elim
      · exact hz'
/-- One more key, put where it stands. -/
def insK (a : Kv 8) : List (Kv 8) → List (Kv 8)
  | [] => [a]
  | y :: l => if kcmp y a < 0 then y :: insK a l else if y = a then y :: l else a :: y :: l
def oi (l : List (Kv 8)) : List (Kv 8) := l.foldl (fun o a => if kck a then insK a o else o) []
theorem insK_mem {a x : Kv 8} : ∀ {l : List (Kv 8)}, x ∈ insK a l ↔ x = a ∨ x ∈ l
  | [] => by simp [insK]
  | y :: l => by
    simp only [insK]
    split
    · rw [List.mem_cons, insK_mem, List.mem_cons]
      exact ⟨fun h => by rcases h with h | h | h; exact .inr (.inl h); exact .inl h; exact .inr (.inr h), fun h => by rcases h with h | h | h; exact .inr (.inl h); exact .inl h; exact .inr (.inr h)⟩
    · split
      · rename_i e; subst e
        exact ⟨fun h => .inr h, fun h => by rcases h with rfl | h; exact List.mem_cons_self ..; exact h⟩
      · rw [List.mem_cons]
theorem insK_rise {a : Kv 8} (ha : kck a = true) : ∀ {l : List (Kv 8)}, Rise l → (∀ x ∈ l, kck x = true) → Rise (insK a l)
  | [], _, _ => by simp [insK, Rise]
  | y :: l, h, hv => by
    have h1 := List.pairwise_cons.1 h
    simp only [insK]
    split
    · rename_i hy
      refine List.pairwise_cons.2 ⟨fun z hz => ?_, insK_rise ha h1.2 (fun x hx => hv x (List.mem_cons_of_mem _ hx))⟩
      rcases insK_mem.1 hz with rfl | hz
      · exact hy
      · exact h1.1 z hz
    · rename_i hy
      split
      · exact h
      · rename_i hne
        have hay : kcmp a y < 0 := by
          by_cases hc : kcmp a y < 0
          · exact hc
          · exact absurd (kcmp_eq (hv y (List.mem_cons_self ..)) ha hy hc) hne
        refine List.pairwise_cons.2 ⟨fun z hz => ?_, h⟩
        rcases List.mem_cons.1 hz with rfl | hz
        · exact hay
        · exact kcmp_tr hay (h1.1 z hz)
theorem oi_prop : ∀ (l o : List (Kv 8)), Rise o → (∀ x ∈ o, kck x = true) →
    Rise (l.foldl (fun o a => if kck a then insK a o else o) o) ∧ (∀ x, x ∈ l.foldl (fun o a => if kck a then insK a o else o) o ↔ (x ∈ l ∧ kck x = true) ∨ x ∈ o)
  | [], o, h, hv => ⟨h, fun x => by simp⟩
  | a :: l, o, h, hv => by
    rw [List.foldl_cons]
    by_cases ha : kck a = true
    · rw [if_pos ha]
      obtain ⟨h1, h2⟩ := oi_prop l (insK a o) (insK_rise ha h hv) (fun x hx => by rcases insK_mem.1 hx with rfl | hx; exact ha; exact hv x hx)
      refine ⟨h1, fun x => ?_⟩
      rw [h2, insK_mem, List.mem_cons]
      exact ⟨fun h => by rcases h with h | h | h; exact .inl ⟨.inr h.1, h.2⟩; exact .inl ⟨.inl h, h ▸ ha⟩; exact .inr h, fun h => by rcases h with ⟨h | h, k⟩ | h; exact .inr (.inl h); exact .inl ⟨h, k⟩; exact .inr (.inr h)⟩
    · rw [if_neg ha]
      obtain ⟨h1, h2⟩ := oi_prop l o h hv
      refine ⟨h1, fun x => ?_⟩
      rw [h2, List.mem_cons]
      exact ⟨fun h => by rcases h with h | h; exact .inl ⟨.inr h.1, h.2⟩; exact .inr h, fun h => by rcases h with ⟨h | h, k⟩ | h; exact absurd (h ▸ k) ha; exact .inl ⟨h, k⟩; exact .inr h⟩
theorem oi_rise (l : List (Kv 8)) : Rise (oi l) := (oi_prop l [] List.Pairwise.nil (fun x h => absurd h List.not_mem_nil)).1
theorem oi_mem {l : List (Kv 8)} {x : Kv 8} : x ∈ oi l ↔ x ∈ l ∧ kck x = true := by have := (oi_prop l [] List.Pairwise.nil (fun x h => absurd h List.not_mem_nil)).2 x; simpa [oi] using this
theorem rise_nodup {l : List (Kv 8)} (h : Rise l) : l.Nodup := List.Pairwise.imp (fun {a b} (h : kcmp a b < 0) => show a ≠ b from fun e => by rw [e] at h; exact kcmp_irr h) h
/-- What SortFunc leaves is the order. -/
theorem sorted_oi {l m : List (Kv 8)} (hp : m.Perm (dd (l.filter (fun k => kck k)))) (hs : m.Pairwise (fun x y => ¬ kcmp y x < 0)) : m = oi l := by
  have hm : ∀ x, x ∈ m ↔ x ∈ l ∧ kck x = true := fun x => by rw [hp.mem_iff, dd_mem, List.mem_filter]
  have hn : m.Nodup := hp.nodup_iff.2 (dd_nodup _)
  refine rise_eq ?_ (oi_rise l) (fun x => by rw [hm, oi_mem])
  have h2 := hs.and hn
  refine List.Pairwise.imp_of_mem (fun {x y} hx hy h => ?_) h2
  by_cases hc : kcmp x y < 0
  · exact hc
  · exact absurd (kcmp_eq ((hm x).1 hx).2 ((hm y).1 hy).2 hc h.1) h.2
theorem oi_congr {l m : List (Kv 8)} (h : ∀ x, x ∈ l ↔ x ∈ m) : oi l = oi m := rise_eq (oi_rise l) (oi_rise m) (fun x => by rw [oi_mem, oi_mem, h])
theorem insK_len (a : Kv 8) : ∀ l : List (Kv 8), (insK a l).length ≤ l.length + 1
  | [] => by simp [insK]
  | y :: l => by
    have := insK_len a l
    simp only [insK]
    split
    · simp only [List.length_cons]; omega
    · split <;> simp
theorem oi_len {l : List (Kv 8)} : (oi l).length ≤ l.length := by
  have : ∀ (l o : List (Kv 8)), (l.foldl (fun o a => if kck a then insK a o else o) o).length ≤ l.length + o.length := by
    intro l
    induction l with
    | nil => intro o; simp
    | cons a l ih =>
      intro o
      rw [List.foldl_cons]
      have h1 := ih (if kck a then insK a o else o)
      have h2 := insK_len a o
      rw [List.length_cons]
      split at h1 <;> rename_i hk
      · rw [if_pos hk]; omega
      · rw [if_neg hk]; omega
  simpa [oi] using this l []
theorem oi_dd {l : List (Kv 8)} (h : ∀ x ∈ l, kck x = true) : (oi l).length = (dd l).length := by
  have hp : (oi l).Perm (dd l) := (List.perm_ext_iff_of_nodup (rise_nodup (oi_rise l)) (dd_nodup l)).2 (fun x => by rw [oi_mem, dd_mem]; exact ⟨fun h => h.1, fun hx => ⟨hx, h x hx⟩⟩)
  exact hp.length_eq

set_option maxRecDepth 100000 in
set_option maxHeartbeats 1000000 in
theorem kinds_spec {va : Value} (l : List (Kv 8)) (hn : l.length ≤ 65536) : Con Try.prog 17 [va] (fun w => RdV w va (Kv.enc 8) l) [] (fun _ : Unit => .int .i64 ((dd l).length : Int)) (fun _ => True) (fun _ => []) := by
  intro w hl hH
  refine enter (n := 18) (vs := [va]) (St w [] []) Try.func17 rfl rfl rfl (St.init hH) ?_
  refine c_seq ?_
  refine c_region _ rfl ?_
  refine l_q rfl (q_assign rfl rfl) rfl rfl ?_
  refine l_nil ?_
  refine k_then ?_
  refine c_seq ?_
  refine c_region _ rfl ?_
  refine l_e rfl ?_
  refine e_makeMap kfK vU rfl rfl rfl ?_
  intro bs
  refine l_q rfl (q_assign rfl rfl) rfl rfl ?_
  refine l_nil ?_
  refine k_then ?_
  refine c_seq ?_
  refine c_seq ?_
  refine c_region _ rfl ?_
  refine l_q rfl (q_move rfl rfl) rfl rfl ?_
  refine l_q rfl (q_lenV rfl Try.underlying25 rfl (fun _ h => hl.keep h (by simp [dom]))) rfl rfl ?_
  refine l_q rfl (q_move rfl rfl) rfl rfl ?_
  refine l_nil ?_
  refine k_then ?_
  refine c_block ?_
  refine c_loop1 (fun (i : Nat) => [(3, .map (some bs)), (7, va), (8, .int .i64 (l.length : Int)), (9, .int .i64 (i : Int))]) (fun (i : Nat) => St w [] [setE bs (dd (l.take i))]) (fun (i : Nat) => i ≤ l.length) (fun (i : Nat) => l.length - i) (0) (Nat.zero_le _) (Sub.cons rfl (Sub.cons rfl (Sub.cons rfl (Sub.cons rfl (Sub.nil))))) (fun _ h => h) ?_
  intro i hi
  refine c_seq ?_
  refine c_region _ rfl ?_
  refine l_q rfl (q_lss rfl rfl rfl) rfl rfl ?_
  refine l_nil ?_
  refine k_then ?_
  refine c_seq ?_
  refine Pre.caseB 10 rfl (fun h1 => ?_) (fun h1 => ?_)
  · try simp only [decide_eq_true_eq, decide_eq_false_iff_not, Bool.not_eq_true', Bool.not_eq_false'] at h1
    obtain ⟨x, hx⟩ : ∃ x, l[i]? = some x := ⟨_, List.getElem?_eq_getElem (by omega)⟩
    have htk : l.take (i + 1) = l.take i ++ [x] := by rw [List.take_add_one, hx]; rfl
    refine c_true rfl ?_
    refine c_skip ?_
    refine k_then ?_
    refine c_seq ?_
    refine c_block ?_
    refine c_seq ?_
    refine c_region _ rfl ?_
    refine l_q rfl (q_indexV i rfl Try.underlying25 Try.sizeOf24 rfl (fun _ h => hl.keep h (by simp [dom])) rfl rfl (by omega)) rfl rfl ?_
    refine l_q rfl (q_loadVAgg i rfl Try.isAgg24 Try.sizeOf24 rfl rfl (fun _ h => hl.keep h (by simp [dom])) hx) rfl rfl ?_
    refine l_e rfl ?_
    refine e_alloc rfl rfl rfl Try.zeroValue24 ?_
    intro bk
    refine cells_eq (show _ = kc 0 z8 from rfl) ?_
    refine l_e rfl ?_
    refine e_storeAgg rfl rfl Try.sizeOf24 rfl rfl (Kv.c_len _) (Kv.one _) (by rw [show ((Kv.enc 8).f x).length = 9 from Kv.c_len x, kc_len z8_len]; decide) ?_
    refine cells_eq (show Sep.splice _ 0 x.c = x.c from Sep.splice_all (by rw [Kv.c_len, kc_len z8_len])) ?_
    refine l_nil ?_
    refine k_then ?_
    refine c_region _ rfl ?_
    refine l_q rfl (q_move rfl rfl) rfl rfl ?_
    refine l_q rfl (q_loadCAgg (x.c) rfl Try.isAgg24 Try.sizeOf24 rfl (fun _ h => h.at 0 rfl) (kv_whole _) (Kv.c_len _)) rfl rfl ?_
    refine pull1 ?_
    refine l_e rfl ?_
    refine e_put x () rfl rfl Try.underlying53 keyK rfl rfl rfl ?_
    rw [mput_set]
    refine l_nil ?_
    refine k_block ?_
    refine k_then ?_
    refine c_region _ rfl ?_
    refine l_q rfl (q_inc rfl rfl rfl (by omega)) rfl rfl ?_
    refine l_q rfl (q_move rfl rfl) rfl rfl ?_
    refine l_nil ?_
    refine pull1 ?_
    refine drop0 ?_
    exact k_round (i + 1) (by omega) (by omega) (Sub.cons rfl (Sub.cons rfl (Sub.cons rfl (Sub.cons rfl (Sub.nil))))) (fun _ h => by rw [htk, dd_snoc]; exact h)
  · try simp only [decide_eq_true_eq, decide_eq_false_iff_not, Bool.not_eq_true', Bool.not_eq_false'] at h1
    have hie : i = l.length := by omega
    subst hie
    rw [List.take_length]
    refine c_false rfl ?_
    refine c_exit ?_
    refine k_then_exit ?_
    refine k_then_exit ?_
    refine k_block_exit ?_
    refine k_then ?_
    refine c_seq ?_
    refine c_region _ rfl ?_
    refine l_q rfl (q_move rfl rfl) rfl rfl ?_
    refine l_q rfl (q_lenM rfl Try.underlying53 rfl (fun _ h => h.at 0 rfl)) rfl rfl ?_
    refine l_q rfl (q_assign rfl rfl) rfl rfl ?_
    refine l_nil ?_
    refine k_then ?_
    refine c_ret ?_
    refine r_one rfl rfl ?_
    exact fun _ h => ⟨(), congrArg (fun z => Ending.returned (Value.int .i64 z)) (by simp), trivial, h.nothing⟩
set_option maxRecDepth 100000 in
set_option maxHeartbeats 1000000 in
theorem order_spec {va : Value} (l : List (Kv 8)) (hn : l.length ≤ 60000) : Con Try.prog 20 [va] (fun w => RdV w va (Kv.enc 8) l) [] (fun v : Value => v) (fun _ => True) (fun v => [rowE v 24 (Kv.enc 8) (oi l)]) := by
  intro w hl hH
  refine enter (n := 32) (vs := [va]) (St w [] []) Try.func20 rfl rfl rfl (St.init hH) ?_
  refine c_seq ?_
  refine c_region _ rfl ?_
  refine l_q rfl (q_assign rfl rfl) rfl rfl ?_
  refine l_nil ?_
  refine k_then ?_
  refine c_seq ?_
  refine c_region _ rfl ?_
  refine l_q rfl (q_assign rfl rfl) rfl rfl ?_
  refine l_nil ?_
  refine k_then ?_
  refine c_seq ?_
  refine c_region _ rfl ?_
  refine l_e rfl ?_
  refine e_makeMap kfK vU rfl rfl rfl ?_
  intro bs
  refine l_q rfl (q_assign rfl rfl) rfl rfl ?_
  refine l_nil ?_
  refine k_then ?_
  refine c_seq ?_
  refine c_seq ?_
  refine c_region _ rfl ?_
  refine l_q rfl (q_move rfl rfl) rfl rfl ?_
  refine l_q rfl (q_lenV rfl Try.underlying25 rfl (fun _ h => hl.keep h (by simp [dom]))) rfl rfl ?_
  refine l_q rfl (q_move rfl rfl) rfl rfl ?_
  refine l_nil ?_
  refine k_then ?_
  refine c_block ?_
  refine row0 24 (Kv.enc 8) none ?_
  refine c_loop2 (fun (i : Nat) (v : Value) => [(3, v), (4, .map (some bs)), (8, va), (9, .int .i64 (l.length : Int)), (10, .int .i64 (i : Int))]) (fun (i : Nat) (v : Value) => St w [] [rowE v 24 (Kv.enc 8) (dd ((l.take i).filter (fun k => kck k))), setE bs (dd ((l.take i).filter (fun k => kck k)))]) (fun (i : Nat) (v : Value) => i ≤ l.length) (fun (i : Nat) (v : Value) => l.length - i) (0) (.slice none 0 0) (Nat.zero_le _) (Sub.cons rfl (Sub.cons rfl (Sub.cons rfl (Sub.cons rfl (Sub.cons rfl (Sub.nil)))))) (fun _ h => h) ?_
  intro i v hi
  refine c_seq ?_
  have hol := dd_len ((l.take i).filter (fun k => kck k))
  have hfl := List.length_filter_le (fun k => kck k) (l.take i)
  have htl := List.length_take_le i l
  refine c_region _ rfl ?_
  refine l_q rfl (q_lss rfl rfl rfl) rfl rfl ?_
  refine l_nil ?_
  refine k_then ?_
  refine c_seq ?_
  refine Pre.caseB 11 rfl (fun h1 => ?_) (fun h1 => ?_)
  · try simp only [decide_eq_true_eq, decide_eq_false_iff_not, Bool.not_eq_true', Bool.not_eq_false'] at h1
    obtain ⟨x, hx⟩ : ∃ x, l[i]? = some x := ⟨_, List.getElem?_eq_getElem (by omega)⟩
    have htk : l.take (i + 1) = l.take i ++ [x] := by rw [List.take_add_one, hx]; rfl
    refine c_true rfl ?_
    refine c_skip ?_
    refine k_then ?_
    refine c_seq ?_
    refine c_block ?_
    refine c_seq ?_
    refine c_region _ rfl ?_
    refine l_q rfl (q_indexV i rfl Try.underlying25 Try.sizeOf24 rfl (fun _ h => hl.keep h (by simp [dom])) rfl rfl (by omega)) rfl rfl ?_
    refine l_q rfl (q_loadVAgg i rfl Try.isAgg24 Try.sizeOf24 rfl rfl (fun _ h => hl.keep h (by simp [dom])) hx) rfl rfl ?_
    refine l_e rfl ?_
    refine e_alloc rfl rfl rfl Try.zeroValue24 ?_
    intro bk
    refine cells_eq (show _ = kc 0 z8 from rfl) ?_
    refine l_e rfl ?_
    refine e_storeAgg rfl rfl Try.sizeOf24 rfl rfl (Kv.c_len _) (Kv.one _) (by rw [show ((Kv.enc 8).f x).length = 9 from Kv.c_len x, kc_len z8_len]; decide) ?_
    refine cells_eq (show Sep.splice _ 0 x.c = x.c from Sep.splice_all (by rw [Kv.c_len, kc_len z8_len])) ?_
    refine l_nil ?_
    refine k_then ?_
    refine c_seq ?_
    refine c_region _ rfl ?_
    refine l_q rfl (q_loadCAgg (x.c) rfl Try.isAgg24 Try.sizeOf24 rfl (fun _ h => h.at 0 rfl) (kv_whole _) (Kv.c_len _)) rfl rfl ?_
    refine l_e rfl ?_
    refine e_call_00 (kcheck_spec x) rfl rfl rfl Try.call13 rfl (fun _ _ => trivial) ?_
    intro _ _
    refine l_q rfl (q_move rfl rfl) rfl rfl ?_
    refine Pre.caseB 16 rfl (fun h2 => ?_) (fun h2 => ?_)
    · have hf : dd ((l.take (i + 1)).filter (fun k => kck k)) = add1 (dd ((l.take i).filter (fun k => kck k))) x := by rw [htk, List.filter_append, List.filter_cons_of_pos h2]; exact dd_snoc _ _
      refine l_q rfl (q_move rfl rfl) rfl rfl ?_
      refine l_q rfl (q_loadCAgg (x.c) rfl Try.isAgg24 Try.sizeOf24 rfl (fun _ h => h.at 0 rfl) (kv_whole _) (Kv.c_len _)) rfl rfl ?_
      refine l_e rfl ?_
      refine e_lookup (l := (dd ((l.take i).filter (fun k => kck k))).map (fun a => (a, ()))) (kf := kfK) (vf := vU) x rfl rfl rfl Try.underlying53 keyK Try.zeroValue4 rfl rfl (fun _ h => h.at 2 rfl) ?_
      refine Pre.setV (t := 19) (c := .bool (decide (x ∈ dd ((l.take i).filter (fun k => kck k))))) rfl (by rw [← mget_set]; cases mget x ((dd ((l.take i).filter (fun k => kck k))).map (fun a => (a, ()))) <;> rfl) ?_
      refine l_q rfl (q_not rfl rfl) rfl rfl ?_
      refine l_q rfl (q_pick_t rfl rfl rfl) rfl rfl ?_
      refine l_nil ?_
      refine k_then ?_
      refine Pre.caseB 21 rfl (fun h3 => ?_) (fun h3 => ?_)
      · try simp only [decide_eq_true_eq, decide_eq_false_iff_not, Bool.not_eq_true', Bool.not_eq_false'] at h3
        have hf2 : add1 (dd ((l.take i).filter (fun k => kck k))) x = dd ((l.take i).filter (fun k => kck k)) ++ [x] := if_neg (by simpa using h3)
        refine c_true rfl ?_
        refine c_seq ?_
        refine c_region _ rfl ?_
        refine l_q rfl (q_move rfl rfl) rfl rfl ?_
        refine l_q rfl (q_loadCAgg (x.c) rfl Try.isAgg24 Try.sizeOf24 rfl (fun _ h => h.at 0 rfl) (kv_whole _) (Kv.c_len _)) rfl rfl ?_
        refine pull2 ?_
        refine l_e rfl ?_
        refine e_put x () rfl rfl Try.underlying53 keyK rfl rfl rfl ?_
        rw [mput_set]
        refine l_nil ?_
        refine k_then ?_
        refine c_region _ rfl ?_
        refine l_q rfl (q_move rfl rfl) rfl rfl ?_
        refine l_q rfl (q_loadCAgg (x.c) rfl Try.isAgg24 Try.sizeOf24 rfl (fun _ h => h.at 1 rfl) (kv_whole _) (Kv.c_len _)) rfl rfl ?_
        refine l_e rfl ?_
        refine e_buildSliceV (sz := 9) [.tmp 25] rfl rfl rfl rfl rfl Try.underlying25 Try.sizeOf24 rfl Try.zeroValue24 (by simp [Value.cells, Kv.c_len]) ?_
        intro b1
        refine pull3 ?_
        refine l_e rfl ?_
        refine e_append rfl rfl rfl Try.underlying25 Try.underlying25 info24 rfl rfl rfl rfl rfl (fun _ h => lit_rd (h.at 1 rfl) (Kv.enc 8) [x] rfl rfl) (by simp only [byt24, List.length_append, List.length_cons, List.length_nil]; omega) (by simp only [List.length_append, List.length_cons, List.length_nil]; omega) ?_
        intro v2
        refine row_eq (hf2.symm) ?_
        refine pull1 ?_
        refine drop0 ?_
        refine l_q rfl (q_assign rfl rfl) rfl rfl ?_
        refine l_nil ?_
        refine k_block ?_
        refine k_then ?_
        refine c_region _ rfl ?_
        refine l_q rfl (q_inc rfl rfl rfl (by omega)) rfl rfl ?_
        refine l_q rfl (q_move rfl rfl) rfl rfl ?_
        refine l_nil ?_
        refine pull2 ?_
        refine drop0 ?_
        refine pull1 ?_
        refine pull1 ?_
        exact k_round ((i + 1, v2)) (by dsimp only; omega) (by dsimp only; omega) (Sub.cons rfl (Sub.cons rfl (Sub.cons rfl (Sub.cons rfl (Sub.cons rfl (Sub.nil)))))) (fun _ h => by dsimp only; rw [hf]; exact h)
      · try simp only [decide_eq_true_eq, decide_eq_false_iff_not, Bool.not_eq_true', Bool.not_eq_false'] at h3
        have hf3 : dd ((l.take (i + 1)).filter (fun k => kck k)) = dd ((l.take i).filter (fun k => kck k)) := hf.trans (if_pos (by simpa using h3))
        refine c_false rfl ?_
        refine c_skip ?_
        refine k_block ?_
        refine k_then ?_
        refine c_region _ rfl ?_
        refine l_q rfl (q_inc rfl rfl rfl (by omega)) rfl rfl ?_
        refine l_q rfl (q_move rfl rfl) rfl rfl ?_
        refine l_nil ?_
        refine drop0 ?_
        refine pull1 ?_
        refine pull1 ?_
        exact k_round ((i + 1, v)) (by dsimp only; omega) (by dsimp only; omega) (Sub.cons rfl (Sub.cons rfl (Sub.cons rfl (Sub.cons rfl (Sub.cons rfl (Sub.nil)))))) (fun _ h => by dsimp only; rw [hf3]; exact h)
    · have hf3 : dd ((l.take (i + 1)).filter (fun k => kck k)) = dd ((l.take i).filter (fun k => kck k)) := by rw [htk, List.filter_append, List.filter_cons_of_neg (by rw [h2]; decide)]; simp
      refine l_not rfl rfl rfl ?_
      refine l_not rfl rfl rfl ?_
      refine l_not rfl rfl rfl ?_
      refine l_not rfl rfl rfl ?_
      refine l_q rfl (q_pick_f rfl rfl rfl) rfl rfl ?_
      refine l_nil ?_
      refine k_then ?_
      refine c_false rfl ?_
      refine c_skip ?_
      refine k_block ?_
      refine k_then ?_
      refine c_region _ rfl ?_
      refine l_q rfl (q_inc rfl rfl rfl (by omega)) rfl rfl ?_
      refine l_q rfl (q_move rfl rfl) rfl rfl ?_
      refine l_nil ?_
      refine drop0 ?_
      refine pull1 ?_
      refine pull1 ?_
      exact k_round ((i + 1, v)) (by dsimp only; omega) (by dsimp only; omega) (Sub.cons rfl (Sub.cons rfl (Sub.cons rfl (Sub.cons rfl (Sub.cons rfl (Sub.nil)))))) (fun _ h => by dsimp only; rw [hf3]; exact h)
  · try simp only [decide_eq_true_eq, decide_eq_false_iff_not, Bool.not_eq_true', Bool.not_eq_false'] at h1
    have hie : i = l.length := by omega
    subst hie
    rw [List.take_length] at hol hfl ⊢
    refine pull1 ?_
    refine drop0 ?_
    refine c_false rfl ?_
    refine c_exit ?_
    refine k_then_exit ?_
    refine k_then_exit ?_
    refine k_block_exit ?_
    refine k_then ?_
    refine c_seq ?_
    refine c_region _ rfl ?_
    refine l_q rfl (q_move rfl rfl) rfl rfl ?_
    refine l_e rfl ?_
    refine e_call_11 (sort_spec _ (by omega)) rfl rfl rfl Try.call26 rfl (fun _ _ => trivial) ?_
    intro m ⟨hm1, hm2⟩
    rw [sorted_oi hm1 hm2]
    refine l_nil ?_
    refine k_then ?_
    refine c_seq ?_
    refine c_region _ rfl ?_
    refine l_q rfl (q_move rfl rfl) rfl rfl ?_
    refine l_q rfl (q_assign rfl rfl) rfl rfl ?_
    refine l_nil ?_
    refine k_then ?_
    refine c_ret ?_
    refine r_one rfl rfl ?_
    exact fun _ h => ⟨v, rfl, trivial, h⟩
end Go.Proofs.Ytaojcncmbbgmcaa
