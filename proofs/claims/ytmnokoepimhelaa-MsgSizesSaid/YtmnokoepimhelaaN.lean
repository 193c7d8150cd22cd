/- messages: plain facts -/
import Derived.Test.YtmnokoepimhelaaJ
set_option linter.unusedVariables false
set_option linter.unusedSimpArgs false
namespace Go.Proofs.Ytmnokoepimhelaa
open Go.Sep Go.RowKit

theorem vfrom_num {z : Int} (h0 : 0 ≤ z) (h1 : z < 18446744073709551616) : num ((vfrom z).b.take 8) = z := num_from z h0 h1
theorem plus_plus (u : Kv 16) (a b : Int) : vplus (vplus u a) b = vplus u (IntKind.u64.wrap (b + a)) := by
  unfold vplus
  have h := wrap_bd (num (u.b.take 8) + a)
  rw [vfrom_num h.1 h.2]
  congr 1
  rw [wrap_add_l, wrap_add_r]
  congr 1
  omega
theorem vck_plus (u : Kv 16) (a : Int) : vck (vplus u a) = true := vcheck_from _
theorem kv0_ck : vck (kv0 16) = true := by decide +kernel
theorem mck_setKey {m : Ms} {k : Kv 8} (hk : kck k = true) (h : mck m = true) : mck (m.setKey k) = true := by
  unfold mck at h ⊢
  rw [Bool.and_eq_true] at h ⊢
  exact ⟨hk, h.2⟩
theorem mck_kck {m : Ms} (h : mck m = true) : kck m.key = true := by unfold mck at h; rw [Bool.and_eq_true] at h; exact h.1
def mput (b : Ms) (v : Kv 16) : Ms := { b with kind := 1, val := v, by' := 0, wk := by decide, wy := by decide }
def madd (b : Ms) (z : Int) : Ms := { b with by' := IntKind.u64.wrap z, wy := wf_wrap _ }
theorem co_keep {a b : Ms} (h : ¬ b.kind = 3) : mco a b = b := by unfold mco; rw [if_pos (.inl h)]
theorem co_other {a b : Ms} (h : ¬ a.key = b.key) : mco a b = b := by unfold mco; rw [if_pos (.inr h)]
theorem co_del {a b : Ms} (h : b.kind = 3) (hk : a.key = b.key) (h2 : a.kind = 2) : mco a b = mput b (vplus (kv0 16) b.by') := by
  unfold mco; rw [if_neg (by rintro (e | e); exact e h; exact e hk), if_pos h2]; rfl
theorem co_put {a b : Ms} (h : b.kind = 3) (hk : a.key = b.key) (h2 : a.kind = 1) : mco a b = mput b (vplus a.val b.by') := by
  unfold mco; rw [if_neg (by rintro (e | e); exact e h; exact e hk), if_neg (by omega), if_pos h2]; rfl
theorem co_add {a b : Ms} (h : b.kind = 3) (hk : a.key = b.key) (h2 : a.kind = 3) : mco a b = madd b (b.by' + a.by') := by
  unfold mco; rw [if_neg (by rintro (e | e); exact e h; exact e hk), if_neg (by omega), if_neg (by omega), if_pos h2]; rfl
theorem co_ck {a b : Ms} (ha : mck a = true) (hb : mck b = true) (hk : a.key = b.key) : mck (mco a b) = true := by
  by_cases h : b.kind = 3
  · have hbk := mck_kck hb
    have hbv := mck_add hb h
    rcases mck_kinds ha with h1 | h1 | h1
    · rw [co_put h hk h1]; unfold mck; simp [mput, hbk, vck_plus]
    · rw [co_del h hk h1]; unfold mck; simp [mput, hbk, vck_plus]
    · rw [co_add h hk h1]; unfold mck; simp [madd, hbk, h, hbv]
  · rw [co_keep h]; exact hb
/-- Both, one behind the other. -/
theorem ap_co {x y : Ms} (hx : mck x = true) (hy : mck y = true) (hk : x.key = y.key) (v : Kv 16) (t : Bool) : map' (map' v t x).1 (map' v t x).2 y = map' v t (mco x y) := by
  by_cases h : y.kind = 3
  · rcases mck_kinds hx with h1 | h1 | h1
    · rw [co_put h hk h1]; simp [map', mput, h, h1]
    · rw [co_del h hk h1]; simp [map', mput, h, h1]
    · rw [co_add h hk h1]; simp [map', madd, h, h1, plus_plus]
  · rw [co_keep h]; simp [map', h]
theorem co_co {x y z : Ms} (hx : mck x = true) (hy : mck y = true) (hz : mck z = true) (h1 : x.key = y.key) (h2 : y.key = z.key) : mco (mco x y) z = mco x (mco y z) := by
  by_cases h : z.kind = 3
  · by_cases hy3 : y.kind = 3
    · rw [co_add h h2 hy3]
      rcases mck_kinds hx with e | e | e
      · rw [co_put hy3 h1 e, co_put (a := mput y (vplus x.val y.by')) h h2 rfl, co_put (b := madd z (z.by' + y.by')) h (h1.trans h2) e]
        exact Ms.ext' rfl rfl rfl (plus_plus _ _ _) rfl
      · rw [co_del hy3 h1 e, co_put (a := mput y (vplus (kv0 16) y.by')) h h2 rfl, co_del (b := madd z (z.by' + y.by')) h (h1.trans h2) e]
        exact Ms.ext' rfl rfl rfl (plus_plus _ _ _) rfl
      · rw [co_add hy3 h1 e, co_add (a := madd y (y.by' + x.by')) h h2 hy3, co_add (b := madd z (z.by' + y.by')) h (h1.trans h2) e]
        refine Ms.ext' rfl rfl rfl rfl ?_
        show IntKind.u64.wrap (z.by' + IntKind.u64.wrap (y.by' + x.by')) = IntKind.u64.wrap (IntKind.u64.wrap (z.by' + y.by') + x.by')
        rw [wrap_add_l, wrap_add_r, Int.add_assoc]
    · rw [co_keep (a := x) hy3]
      rcases mck_kinds hy with e | e | e
      · rw [co_put h h2 e, co_keep (show ¬ (1 : Int) = 3 by decide)]
      · rw [co_del h h2 e, co_keep (show ¬ (1 : Int) = 3 by decide)]
      · exact absurd e hy3
  · rw [co_keep h, co_keep h, co_keep h]
theorem co_seq (a b : Ms) : (mco a b).seq = b.seq ∧ (mco a b).key = b.key := by
  unfold mco
  split
  · exact ⟨rfl, rfl⟩
  · split
    · exact ⟨rfl, rfl⟩
    · split
      · exact ⟨rfl, rfl⟩
      · split <;> exact ⟨rfl, rfl⟩
theorem co_kind {a b : Ms} (ha : mck a = true) (h : b.kind = 3) (hk : a.key = b.key) : (mco a b).kind = if a.kind = 3 then 3 else 1 := by
  rcases mck_kinds ha with h1 | h1 | h1
  · rw [co_put h hk h1, if_neg (by omega)]; rfl
  · rw [co_del h hk h1, if_neg (by omega)]; rfl
  · rw [co_add h hk h1, if_pos h1]; exact h

end Go.Proofs.Ytmnokoepimhelaa
