/- keys: SortFunc -/
import Derived.Test.YtaojcncmbbgmcaaT
import Derived.Shelf.SlSortCmp.NoneTotal
import Derived.Shelf.Lay
import Derived.Ground.SlsfProg
set_option linter.unusedVariables false
set_option linter.unusedSimpArgs false
namespace Go.Proofs.Ytaojcncmbbgmcaa
open Go.Sep Go.RowKit

def sortL_ren : Go.Shelf.Ren := ⟨fun | 6 => 26 | 15 => 29 | 14 => 28 | 28 => 39 | 29 => 40 | 20 => 31 | 21 => 32 | 22 => 33 | 23 => 34 | 24 => 35 | 25 => 36 | 26 => 37 | 27 => 38 | 46 => 42 | 47 => 43 | 48 => 44 | 49 => 45 | 50 => 46 | 57 => 47 | n => n, fun | 22 => 25 | 24 => 24 | 25 => 40 | 3 => 3 | 39 => 58 | 0 => 0 | 53 => 68 | 55 => 70 | 4 => 4 | 46 => 61 | 45 => 60 | 50 => 65 | 5 => 5 | 9 => 9 | 66 => 71 | 70 => 75 | 76 => 77 | 77 => 78 | n => n, fun | n => n⟩
theorem sortL : Go.Proofs.SlLaysF0.n6 Try.prog sortL_ren := {
  mixed := by kernel_rfl,
  f6 := ⟨Try.f26.name, by decide, Try.func26.trans (congrArg some (by kernel_rfl))⟩,
  f14 := ⟨Try.f28.name, by decide, Try.func28.trans (congrArg some (by kernel_rfl))⟩,
  f15 := Try.func29.trans (congrArg some (by kernel_rfl)),
  f20 := ⟨Try.f31.name, by decide, Try.func31.trans (congrArg some (by kernel_rfl))⟩,
  f21 := ⟨Try.f32.name, by decide, Try.func32.trans (congrArg some (by kernel_rfl))⟩,
  f22 := ⟨Try.f33.name, by decide, Try.func33.trans (congrArg some (by kernel_rfl))⟩,
  f23 := ⟨Try.f34.name, by decide, Try.func34.trans (congrArg some (by kernel_rfl))⟩,
  f24 := ⟨Try.f35.name, by decide, Try.func35.trans (congrArg some (by kernel_rfl))⟩,
  f25 := ⟨Try.f36.name, by decide, Try.func36.trans (congrArg some (by kernel_rfl))⟩,
  f26 := ⟨Try.f37.name, by decide, Try.func37.trans (congrArg some (by kernel_rfl))⟩,
  f27 := ⟨Try.f38.name, by decide, Try.func38.trans (congrArg some (by kernel_rfl))⟩,
  f28 := Try.func39.trans (congrArg some (by kernel_rfl)),
  f29 := Try.func40.trans (congrArg some (by kernel_rfl)),
  f46 := ⟨Try.f42.name, by decide, Try.func42.trans (congrArg some (by kernel_rfl))⟩,
  f47 := Try.func43.trans (congrArg some (by kernel_rfl)),
  f48 := Try.func44.trans (congrArg some (by kernel_rfl)),
  f49 := ⟨Try.f45.name, by decide, Try.func45.trans (congrArg some (by kernel_rfl))⟩,
  f50 := ⟨Try.f46.name, by decide, Try.func46.trans (congrArg some (by kernel_rfl))⟩,
  f57 := ⟨Try.f47.name, by decide, Try.func47.trans (congrArg some (by kernel_rfl))⟩,
  t0 := Try.underlying0,
  a0 := Try.isAgg0,
  z0 := Try.sizeOf0,
  v0 := Try.zeroValue0,
  t3 := Try.underlying3,
  a3 := Try.isAgg3,
  z3 := Try.sizeOf3,
  v3 := Try.zeroValue3,
  t4 := Try.underlying4,
  a4 := Try.isAgg4,
  z4 := Try.sizeOf4,
  v4 := Try.zeroValue4,
  t5 := Try.underlying5,
  a5 := Try.isAgg5,
  z5 := Try.sizeOf5,
  v5 := Try.zeroValue5,
  t9 := Try.underlying9,
  a9 := Try.isAgg9,
  z9 := Try.sizeOf9,
  v9 := Try.zeroValue9,
  t22 := Try.underlying25,
  a22 := Try.isAgg25,
  z22 := Try.sizeOf25,
  v22 := Try.zeroValue25,
  t25 := Try.underlying40,
  a25 := Try.isAgg40,
  z25 := Try.sizeOf40,
  v25 := Try.zeroValue40,
  t39 := Try.underlying58,
  a39 := Try.isAgg58,
  z39 := Try.sizeOf58,
  v39 := Try.zeroValue58,
  t45 := Try.underlying60,
  a45 := Try.isAgg60,
  z45 := Try.sizeOf60,
  v45 := Try.zeroValue60,
  t46 := Try.underlying61,
  a46 := Try.isAgg61,
  z46 := Try.sizeOf61,
  v46 := Try.zeroValue61,
  t50 := Try.underlying65,
  a50 := Try.isAgg65,
  z50 := Try.sizeOf65,
  v50 := Try.zeroValue65,
  t53 := Try.underlying68,
  a53 := Try.isAgg68,
  z53 := Try.sizeOf68,
  v53 := Try.zeroValue68,
  t55 := Try.underlying70,
  a55 := Try.isAgg70,
  z55 := Try.sizeOf70,
  v55 := Try.zeroValue70,
  t66 := Try.underlying71,
  a66 := Try.isAgg71,
  z66 := Try.sizeOf71,
  v66 := Try.zeroValue71,
  t70 := Try.underlying75,
  a70 := Try.isAgg75,
  z70 := Try.sizeOf75,
  v70 := Try.zeroValue75,
  t76 := Try.underlying77,
  a76 := Try.isAgg77,
  z76 := Try.sizeOf77,
  v76 := Try.zeroValue77,
  t77 := Try.underlying78,
  a77 := Try.isAgg78,
  z77 := Try.sizeOf78,
  v77 := Try.zeroValue78 }
instance : Inhabited (Kv 8) := ⟨kv0 8⟩
theorem flatK_eq (l : List (Kv 8)) : Go.Sort.flatK Kv.c 9 l.toArray = ((Kv.enc 8).flat l).toArray := by
  have hs : (Go.Sort.flatK Kv.c 9 l.toArray).size = l.length * 9 := by simp
  have hl := (Kv.enc 8).flat_len l
  have hz : (Kv.enc 8).sz = 9 := rfl
  rw [hz] at hl
  apply Array.ext
  · simp [hl]
  · intro i h1 h2
    rw [hs] at h1
    have hdiv : i / 9 < l.length := (Nat.div_lt_iff_lt_mul (by decide)).2 h1
    have hmod : i % 9 < 9 := Nat.mod_lt _ (by decide)
    have hg := Go.Sort.get_flatK Kv.c 9 l.toArray i (by simpa using h1)
    rw [getElem!_pos _ i (by rw [hs]; exact h1)] at hg
    rw [hg]
    have e1 : l.toArray[i / 9]! = l[i / 9] := by rw [getElem!_pos l.toArray (i / 9) (by simpa using hdiv)]; simp
    have hcl : i % 9 < (Kv.c l[i / 9]).length := by rw [Kv.c_len]; exact hmod
    have e2 : ((Kv.enc 8).flat l)[i / 9 * 9 + i % 9]? = some (Kv.c l[i / 9])[i % 9] := (Kv.enc 8).flat_get l (i / 9) (i % 9) l[i / 9] _ (List.getElem?_eq_getElem hdiv) (List.getElem?_eq_getElem hcl)
    have hi9 : i / 9 * 9 + i % 9 = i := by omega
    simp only [hi9] at e2
    rw [List.getElem?_eq_getElem (by omega)] at e2
    rw [e1, List.getElem_toArray, Option.some.inj e2, getElem!_pos (Kv.c l[i / 9]) (i % 9) hcl]
theorem kcmp_swo : Go.Sort.SWO (ltOf kcmp) where
  irrefl x := by unfold ltOf kcmp; rw [lex_self]; rfl
  trans x y z h1 h2 := by
    unfold ltOf kcmp at *
    simp only [decide_eq_true_eq] at *
    exact lex_trans' h1 (Int.le_of_lt h2)
  ntrans x y z h1 h2 := by
    unfold ltOf kcmp at *
    simp only [decide_eq_false_iff_not] at *
    have e1 := lex_neg (tx x) (tx y)
    have e2 := lex_neg (tx y) (tx z)
    have e3 := lex_neg (tx x) (tx z)
    have := lex_trans (a := tx z) (b := tx y) (c := tx x) (by omega) (by omega)
    omega
/-- What Compare leaves of a world: it has grown. -/
theorem grown_of {w w' : World} (h : St w [] [] w') : ∃ q os', w' = Go.Sort.grow (w.drewN q) os' := by
  have hk := h.keep
  refine ⟨w'.drawn - w.drawn, w'.heap.extract w.heap.size w'.heap.size, ?_⟩
  have hh : w'.heap = w.heap ++ w'.heap.extract w.heap.size w'.heap.size := by
    apply Array.ext_getElem?
    intro b
    by_cases hb : b < w.heap.size
    · rw [hk.block b hb (by simp), Array.getElem?_append_left hb]
    · rw [Array.getElem?_append_right (by omega), Array.getElem?_extract]
      by_cases hb2 : b < w'.heap.size
      · rw [if_pos (by omega)]; congr 1; omega
      · rw [if_neg (by omega), Array.getElem?_eq_none (by omega)]
  have hd := hk.dr
  have h1 := hk.os; have h2 := hk.tape; have h3 := hk.output
  obtain ⟨heap, tape, drawn, os, output⟩ := w'
  obtain ⟨heap0, tape0, drawn0, os0, output0⟩ := w
  simp only at h1 h2 h3 hd hh
  simp only [Go.Sort.grow, World.drewN]
  subst h1; subst h2; subst h3
  simp only [World.mk.injEq, true_and, and_true]
  exact ⟨hh, by omega⟩
theorem cmp_lays (blk off size : Nat) (w : World) : CmpLays Try.prog 24 #[] Kv.c 9 kcmp blk off size w := fun m os dk hs x y => by
  have := cmp_spec x y (sortWorldK Kv.c 9 w blk off m dk os) trivial (HP.nil _)
  refine this.mono ?_
  rintro e w' ⟨_, he, _, h⟩
  exact ⟨he, grown_of h⟩
theorem put_cells (pre F post M : List Value) (h : M.length = F.length) : Go.Sort.putCells id pre.length F.toArray (pre ++ M ++ post).toArray = (pre ++ F ++ post).toArray := by
  apply Array.ext
  · simp [Go.Sort.putCells, h]
  · intro i h1 h2
    simp only [Go.Sort.putCells, Array.getElem_mapIdx, List.getElem_toArray, id]
    by_cases hc : pre.length ≤ i ∧ i < pre.length + F.toArray.size
    · rw [if_pos hc]
      simp only [List.size_toArray] at hc
      rw [getElem!_pos F.toArray (i - pre.length) (by simp; omega)]
      simp only [List.getElem_toArray]
      rw [List.getElem_append_left (by simp; omega), List.getElem_append_right (by omega)]
    · rw [if_neg hc]
      simp only [List.size_toArray] at hc
      rcases Nat.lt_or_ge i pre.length with hi | hi
      · rw [List.getElem_append_left (by simp; omega), List.getElem_append_left hi, List.getElem_append_left (by simp; omega), List.getElem_append_left hi]
      · have hge : pre.length + F.length ≤ i := by omega
        rw [List.getElem_append_right (by simp; omega), List.getElem_append_right (by simp; omega)]
        congr 1
        simp [h]
theorem sort_spec {v : Value} (l : List (Kv 8)) (hn : l.length ≤ 65536) : Con Try.prog 26 [v, .func (.func 24) #[] #[]] (fun _ => True) [rowE v 24 (Kv.enc 8) l] (fun _ : List (Kv 8) => .tuple #[]) (fun l' => l'.Perm l ∧ l'.Pairwise (fun x y => ¬ kcmp y x < 0)) (fun l' => [rowE v 24 (Kv.enc 8) l']) := fun w _ hH => by
  have s0 : St w (dom [rowE v 24 (Kv.enc 8) l]) [rowE v 24 (Kv.enc 8) l] w := St.init hH
  by_cases hl : l = []
  · subst hl
    obtain ⟨a, c, rfl⟩ := row_sl (s0.at 0 rfl)
    have hcon := AnyF.slices_SortFunc_none sortL a c (.func (.func 24) #[] #[]) w
    change Calls Try.prog 26 _ _ _ at hcon
    refine hcon.mono ?_
    rintro e w' ⟨he, rfl⟩
    exact ⟨[], he, ⟨.refl _, List.Pairwise.nil⟩, s0⟩
  have hpos : 0 < l.length := List.length_pos_iff.2 hl
  have hat : Row v 24 (Kv.enc 8) l ((ownB v).bind (w.heap[·]?)) := s0.at 0 rfl
  rcases hat with ⟨a, rfl, rfl⟩ | ⟨b, cap, pre, post, rfl, hcp, ho, hlc, hpost⟩
  · exact absurd rfl hl
  have hown : ownB (.slice (some ⟨b, pre.length, none⟩) l.length cap) = some b := by simp [ownB]; omega
  rw [hown] at ho
  have hw : w.heap[b]? = some (.cells (pre ++ (Kv.enc 8).flat l ++ post).toArray 24 (0, 0)) := ho
  have hlt : b < w.heap.size := (Array.getElem?_eq_some_iff.1 hw).1
  have hfl := (Kv.enc 8).flat_len l
  have hz : (Kv.enc 8).sz = 9 := rfl
  have eg : ∀ args w, (callFunc 24 args).run Try.prog w = .ok (.enter 24 args) w := Try.call24
  have hcell : (cellsE b 24 (pre ++ (Kv.enc 8).flat l ++ post)).at w := hw
  have hH2 : Go.Sort.HoldsK Kv.c 9 w b pre.length l.toArray := by
    unfold Go.Sort.HoldsK
    rw [flatK_eq]
    intro j hj
    simp only [List.size_toArray] at hj
    refine ⟨?_, cellsE_free hcell _⟩
    rw [cellsE_cell hcell (v := ((Kv.enc 8).flat l)[j]) (by rw [List.append_assoc, List.getElem?_append_right (by omega), List.getElem?_append_left (by omega), Nat.add_sub_cancel_left, List.getElem?_eq_getElem hj])]
    rw [getElem!_pos _ j (by simpa using hj)]
    simp
  have hcon := AnyQ.slices_SortFunc sortL 9 Try.isAgg24 Try.sizeOf24 Kv.c (fun x => Kv.c_len x) (fun x v hv => Kv.one x v hv) kcmp kcmp_swo 24 #[] b pre.length cap l.toArray w eg (cmp_lays b pre.length l.toArray.size w) hH2 hlt (by simp; omega)
  change Calls Try.prog 26 _ _ _ at hcon
  simp only [List.size_toArray] at hcon
  refine hcon.mono ?_
  rintro e w' ⟨he, d', n, os, hp, hs, rfl⟩
  obtain ⟨p1, p2, p3⟩ := hp
  have hds : d'.size = l.length := by simpa using p1
  have hperm : d'.toList.Perm l := by
    have h1 : d'.extract 0 l.length = d' := by rw [← hds]; exact Array.extract_size
    have h2 : l.toArray.extract 0 l.length = l.toArray := by simp
    rw [h1, h2] at p3
    simpa using p3
  have hflK : Go.Sort.flatK Kv.c 9 d' = ((Kv.enc 8).flat d'.toList).toArray := by have := flatK_eq d'.toList; simpa using this
  have hfl2 := (Kv.enc 8).flat_len d'.toList
  have hdl : d'.toList.length = l.length := by simpa using hds
  have hh : (sortWorldK Kv.c 9 w b pre.length n d' os).heap = w.heap.modify b (Go.Sort.onCells (Go.Sort.putCells id pre.length (Go.Sort.flatK Kv.c 9 d'))) ++ os := rfl
  have hb' : (sortWorldK Kv.c 9 w b pre.length n d' os).heap[b]? = some (.cells (pre ++ (Kv.enc 8).flat d'.toList ++ post).toArray 24 (0, 0)) := by
    rw [hh, Array.getElem?_append_left (by simpa using hlt), Array.getElem?_modify, if_pos rfl, hw]
    simp only [Option.map_some, Go.Sort.onCells]
    rw [hflK, put_cells _ _ _ _ (by rw [hfl, hfl2, hdl])]
  have hoth : ∀ k, k < w.heap.size → k ≠ b → (sortWorldK Kv.c 9 w b pre.length n d' os).heap[k]? = w.heap[k]? := fun k hk hne => by
    rw [hh, Array.getElem?_append_left (by simpa using hk), Array.getElem?_modify, if_neg (fun e => hne e.symm)]
  have hdom : ∀ q : List (Kv 8), dom [rowE (.slice (some ⟨b, pre.length, none⟩) l.length cap) 24 (Kv.enc 8) q] = [b] := fun q => by
    simp only [Sep.dom, rowE, hown, List.filterMap_cons, List.filterMap_nil]
  refine ⟨d'.toList, he, ⟨hperm, ?_⟩, ⟨⟨fun en hen => ?_, by rw [hdom]; simp, fun k hk => ?_⟩, fun k hk => ?_, ⟨rfl, rfl, rfl, by rw [hh]; simp, fun k hk hkD => hoth k hk (by rw [hdom] at hkD; simpa using hkD), ?_⟩⟩⟩
  · rw [List.pairwise_iff_getElem]
    intro i j hi hj hij
    have hi' : i < d'.size := by simpa using hi
    have hj' : j < d'.size := by simpa using hj
    have := hs i j (Nat.zero_le _) hij (by rw [← hds]; exact hj')
    rw [getElem!_pos d' j hj', getElem!_pos d' i hi'] at this
    unfold ltOf at this
    simpa using this
  · simp only [List.mem_singleton] at hen
    subst hen
    show Row (.slice (some ⟨b, pre.length, none⟩) l.length cap) 24 (Kv.enc 8) d'.toList ((ownB (.slice (some ⟨b, pre.length, none⟩) l.length cap)).bind ((sortWorldK Kv.c 9 w b pre.length n d' os).heap[·]?))
    rw [hown]
    refine .inr ⟨b, cap, pre, post, by rw [hdl], hcp, hb', by omega, by rw [hdl]; exact hpost⟩
  · rw [hdom] at hk
    simp only [List.mem_singleton] at hk
    subst hk
    rw [hh]; simp; omega
  · rw [hdom] at hk ⊢
    exact .inl hk
  · show w.drawn ≤ w.drawn + n
    omega

end Go.Proofs.Ytaojcncmbbgmcaa
