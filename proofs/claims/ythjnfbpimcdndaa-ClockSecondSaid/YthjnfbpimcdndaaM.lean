/- clock: Sweep, in new words -/
import Derived.Test.YthjnfbpimcdndaaS9
import Derived.Test.YthjnfbpimcdndaaClk5
import Derived.Test.YthjnfbpimcdndaaClk4
import Derived.Test.YthjnfbpimcdndaaClk3
set_option linter.unusedVariables false
set_option linter.unusedSimpArgs false
namespace Go.Proofs.Ythjnfbpimcdndaa
open Go.Sep Go.RowKit

/-- The places looked at, from h on, twice round. -/
def spots (n h : Nat) : List Nat := (List.range (2 * n)).map (fun i => (h + i) % n)
/-- Who goes, and the refs that are left. -/
def scn (cs : List Bool) : List Nat → List Bool → Option Nat × List Bool
  | [], l => (none, l)
  | k :: ks, l => if cs.getD k false then (if l.getD k false then scn cs ks (l.set k false) else (some k, l)) else scn cs ks l
theorem scan_scn {cs : List Bool} {n : Nat} : ∀ (ks : List (Fin n)) (l : List Bool), ((scan cs ks l).1.map (·.val), (scan cs ks l).2) = scn cs (ks.map (·.val)) l
  | [], l => rfl
  | k :: ks, l => by
    simp only [scan, scn, List.map_cons, ← List.getD_eq_getElem?_getD]
    split
    · split
      · exact scan_scn ks _
      · rfl
    · exact scan_scn ks l
theorem spots_upto {n h : Nat} (hp : 0 < n) : (upto (spot n h hp) (2 * n)).map (·.val) = spots n h := by
  unfold upto spots spot
  rw [List.map_map]; rfl
/-- Sweep: who goes, which refs are left. -/
def swM (cs rs : List Bool) (hand : Int) : Option Nat × List Bool := if cs = [] ∨ rs.length ≠ cs.length then (none, []) else scn cs (spots cs.length (hand % (cs.length : Int)).toNat) rs
def swP (cs rs : List Bool) (hand : Int) : Int := match (swM cs rs hand).1 with | none => -1 | some k => (k : Int)
def swN (cs rs : List Bool) (hand : Int) : Int := if cs = [] ∨ rs.length ≠ cs.length then 0 else match (swM cs rs hand).1 with | none => hand % (cs.length : Int) | some k => (((k + 1) % cs.length : Nat) : Int)
theorem swept_eq {cs rs : List Bool} {hand : Int} {h : Nat} (hp : 0 < cs.length) (hl : rs.length = cs.length) (hh : hand % (cs.length : Int) = h) (v : Value) :
    swept h (scan cs (upto (spot cs.length h hp) (2 * cs.length)) rs).1 v = .tuple #[.int .i64 (swP cs rs hand), .int .i64 (swN cs rs hand), v] ∧ (scan cs (upto (spot cs.length h hp) (2 * cs.length)) rs).2 = (swM cs rs hand).2 := by
  have h0 : ¬ (cs = [] ∨ rs.length ≠ cs.length) := by rintro (e | e); subst e; simp at hp; exact e hl
  have e := scan_scn (cs := cs) (upto (spot cs.length h hp) (2 * cs.length)) rs
  rw [spots_upto] at e
  have hM : swM cs rs hand = scn cs (spots cs.length h) rs := by
    unfold swM; rw [if_neg h0, hh]; rfl
  unfold swP swN
  rw [if_neg h0, hM, ← e]
  generalize scan cs (upto (spot cs.length h hp) (2 * cs.length)) rs = r
  obtain ⟨o, l⟩ := r
  cases o with
  | none => rw [hh]; exact ⟨rfl, rfl⟩
  | some k => exact ⟨rfl, rfl⟩
theorem sweep_con {P : Program} {f : FuncId}
    (yes : ∀ (B : Nat) (A0 A1 : Option Addr) (c0 c1 : Nat) (cs rs : List Bool) (hand : Int) (n : Nat) (w : World) (hn : n ≤ 65536) (hp : 0 < n) (h0 : cs.length = n) (h1 : rs.length = n) (hw : (Lit.int .i64 hand).wf = true)
      (hr0 : Rd w B A0 (cs.map .bool)) (hr1 : Rd w B A1 (rs.map .bool)) (hB : B ≤ w.heap.size) (h : Nat) (hh : hand % (n : Int) = h),
      Calls P f #[.slice A0 n c0, .slice A1 n c1, .int .i64 hand] w fun e w' => ∃ v, e = .returned (swept h (scan cs (upto (spot n h hp) (2 * n)) rs).1 v) ∧
        w'.ownsRow w.heap.size 4 1 v n ((scan cs (upto (spot n h hp) (2 * n)) rs).2.map .bool) ∧ Below w.heap.size w w')
    (no : ∀ (A0 A1 : Option Addr) (c0 c1 m n : Nat) (hand : Int) (w : World) (hn : n ≤ 65536) (h : n = 0 ∨ m ≠ n),
      Calls P f #[.slice A0 n c0, .slice A1 m c1, .int .i64 hand] w fun e w' => e = .returned (.tuple #[.int .i64 (-1), .int .i64 0, .slice none 0 0]) ∧ Below w.heap.size w w')
    {va vb : Value} (cs rs : List Bool) (hand : Int) (hw : (Lit.int .i64 hand).wf = true) (hn : cs.length ≤ 65536) :
    Con P f [va, vb, .int .i64 hand] (fun w => RdV w va encB cs ∧ RdV w vb encB rs) [] (fun v : Value => .tuple #[.int .i64 (swP cs rs hand), .int .i64 (swN cs rs hand), v]) (fun _ => True) (fun v => [rowE v 4 encB (swM cs rs hand).2]) := by
  intro w hE hH
  obtain ⟨ha, hb⟩ := hE
  obtain ⟨a0, c0, rfl⟩ := rd_sl ha
  obtain ⟨a1, c1, rfl⟩ := rd_sl hb
  by_cases h0 : cs = [] ∨ rs.length ≠ cs.length
  · refine (no a0 a1 c0 c1 rs.length cs.length hand w hn (by rcases h0 with h | h; left; subst h; rfl; exact .inr h)).mono ?_
    rintro e w' ⟨rfl, hbl⟩
    have hM : swM cs rs hand = (none, []) := by unfold swM; rw [if_pos h0]
    refine ⟨.slice none 0 0, ?_, trivial, ?_⟩
    · unfold swP swN; rw [hM, if_pos h0]
    · rw [hM]
      have hk : Keep w [] w' := ⟨hbl.os, hbl.tape, hbl.output, hbl.size, fun b hb' _ => hbl.block b hb'⟩
      have hs : St w [] [] w' := ⟨HP.nil w', fun b hb => (by cases hb), hk⟩
      exact hs.row0 4 encB none
  · have hp : 0 < cs.length := by
      rcases Nat.eq_zero_or_pos cs.length with h | h
      · exact absurd (.inl (List.eq_nil_of_length_eq_zero h)) h0
      · exact h
    have hl : rs.length = cs.length := Classical.byContradiction (fun h => h0 (.inr h))
    have hh : hand % (cs.length : Int) = ((hand % (cs.length : Int)).toNat : Int) := (Int.toNat_of_nonneg (Int.emod_nonneg _ (by omega))).symm
    have fl : ∀ l : List Bool, encB.flat l = l.map .bool := flat_one' encB Value.bool (fun _ => rfl)
    have r0 := rd_of ha
    have r1 := rd_of hb
    rw [fl] at r0 r1
    rw [hl]
    refine (yes w.heap.size a0 a1 c0 c1 cs rs hand cs.length w hn hp rfl hl hw r0 r1 (Nat.le_refl _) _ hh).mono ?_
    rintro e w' ⟨v, rfl, hown, hbl⟩
    obtain ⟨e1, e2⟩ := swept_eq hp hl hh v
    refine ⟨v, by rw [e1], trivial, ?_⟩
    rw [e2, ← fl] at hown
    have hlen : (swM cs rs hand).2.length = cs.length := by rw [← e2, scan_len, hl]
    rw [← hlen] at hown
    exact st_of_own hown hbl

theorem sweep_spec {va vb : Value} (cs rs : List Bool) (hand : Int) (hw : (Lit.int .i64 hand).wf = true) (hn : cs.length ≤ 65536) : Con Try.prog 9 [va, vb, .int .i64 hand] (fun w => RdV w va encB cs ∧ RdV w vb encB rs) [] (fun v : Value => .tuple #[.int .i64 (swP cs rs hand), .int .i64 (swN cs rs hand), v]) (fun _ => True) (fun v => [rowE v 4 encB (swM cs rs hand).2]) :=
  sweep_con (fun B A0 A1 c0 c1 cs rs hand n w hn hp h0 h1 hw hr0 hr1 hB h hh => sweep_yes B A0 A1 c0 c1 cs rs hand n w hn hp h0 h1 hw hr0 hr1 hB h hh) sweep_no cs rs hand hw hn
theorem rsweep_spec {va vb : Value} (cs rs : List Bool) (hand : Int) (hw : (Lit.int .i64 hand).wf = true) (hn : cs.length ≤ 65536) : Con Try.prog 10 [va, vb, .int .i64 hand] (fun w => RdV w va encB cs ∧ RdV w vb encB rs) [] (fun v : Value => .tuple #[.int .i64 (swP cs rs hand), .int .i64 (swN cs rs hand), v]) (fun _ => True) (fun v => [rowE v 4 encB (swM cs rs hand).2]) :=
  sweep_con (fun B A0 A1 c0 c1 cs rs hand n w hn hp h0 h1 hw hr0 hr1 hB h hh => rsweep_yes B A0 A1 c0 c1 cs rs hand n w hn hp h0 h1 hr0 hr1 hB h hh) rsweep_no cs rs hand hw hn
end Go.Proofs.Ythjnfbpimcdndaa
