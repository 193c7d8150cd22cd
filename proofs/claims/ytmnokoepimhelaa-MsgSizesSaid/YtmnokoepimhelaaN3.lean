/- messages: sizes -/
import Derived.Test.YtmnokoepimhelaaN
set_option linter.unusedVariables false
set_option linter.unusedSimpArgs false
namespace Go.Proofs.Ytmnokoepimhelaa
open Go.Sep Go.RowKit

theorem by_bd {m : Ms} (h : mck m = true) : 10 ≤ mby m ∧ mby m ≤ 35 := by
  have hk := mck_key h
  unfold mby
  rw [if_pos h]
  split
  · rename_i h1; have := mck_val h h1; omega
  · split <;> omega
theorem by_co {x y : Ms} (hx : mck x = true) (hy : mck y = true) (hk : x.key = y.key) : mby (mco x y) ≤ mby x ∨ mby (mco x y) ≤ mby y ∨ mby (mco x y) ≤ 19 + x.key.n := by
  have hc := co_ck hx hy hk
  by_cases h : y.kind = 3
  · rcases mck_kinds hx with h1 | h1 | h1
    · right; right
      rw [co_put h hk h1] at hc ⊢
      unfold mby; rw [if_pos hc]
      show 10 + y.key.n + (if (1 : Int) = 1 then 1 + 8 else _) ≤ _
      rw [if_pos rfl, hk]; omega
    · right; right
      rw [co_del h hk h1] at hc ⊢
      unfold mby; rw [if_pos hc]
      show 10 + y.key.n + (if (1 : Int) = 1 then 1 + 8 else _) ≤ _
      rw [if_pos rfl, hk]; omega
    · right; left
      rw [co_add h hk h1] at hc ⊢
      unfold mby; rw [if_pos hc, if_pos hy]
      exact Int.le_refl _
  · right; left
    rw [co_keep h]; exact Int.le_refl _
/-- A key of one byte more. -/
def kmore (k : Kv 8) (z : Int) (wz : (Lit.int .i64 z).wf = true) : Kv 8 := ⟨z, k.b, k.len, wz, k.wb⟩
theorem set_kn (m : Ms) (z : Int) (wz : (Lit.int .i64 z).wf = true) : m.c.set 2 (.int .i64 z) = (m.setKey (kmore m.key z wz)).c := rfl
theorem more_ck {k : Kv 8} (h : kck k = true) (h8 : k.n < 8) (wz : (Lit.int .i64 (k.n + 1)).wf = true) : kck (kmore k (k.n + 1) wz) = true := by
  unfold kck at h ⊢
  have := of_decide_eq_true h
  exact decide_eq_true ⟨by show 0 ≤ k.n + 1; omega, by show k.n + 1 ≤ 8; omega, fun i hi hn => this.2.2 i hi (by have : k.n + 1 ≤ (i : Int) := hn; omega)⟩
theorem more_by {m : Ms} (h : mck m = true) (h8 : m.key.n < 8) (wz : (Lit.int .i64 (m.key.n + 1)).wf = true) : mby (m.setKey (kmore m.key (m.key.n + 1) wz)) = mby m + 1 := by
  have h2 := mck_setKey (more_ck (mck_kck h) h8 wz) h
  unfold mby
  rw [if_pos h, if_pos h2]
  show 10 + (m.key.n + 1) + (if m.kind = 1 then 1 + m.val.n else if m.kind = 3 then 8 else 0) = _
  omega
section
variable {P : Program} {n : Nat} {L : Env} {X : World → Prop} {o : Oper}
theorem q_max3 {x y z : Operand} {ts : Array TypeId} {k j i : IntKind} {p q r : Int} (ho : o.op = .call ⟨.builtin .max, #[x, y, z], ts⟩) (hx : ev L x = some (.int k p)) (hy : ev L y = some (.int j q)) (hz : ev L z = some (.int i r)) : QOp P n L X o (.int k (if r > (if q > p then q else p) then r else (if q > p then q else p))) := fun a w hk _ => by
  simp [execOp, ho, resolve, invoke, builtin, hk.eval hx, hk.eval hy, hk.eval hz, Builtin.max_, Builtin.max2, Result.andThen]
end

end Go.Proofs.Ytmnokoepimhelaa
