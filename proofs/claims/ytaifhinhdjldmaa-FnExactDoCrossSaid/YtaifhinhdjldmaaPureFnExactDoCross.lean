/- The plain statement of FnExactDoCross, over numbers and lists: the program's answer is the reference's. -/
import Derived.Test.YtaifhinhdjldmaaPFnExactDoCrossx
set_option linter.unusedVariables false
set_option linter.unusedSimpArgs false
namespace Go.Proofs.Ytaifhinhdjldmaa.Pure
open Go.RowKit Go.Proofs.Ytaifhinhdjldmaa.PFnExactDoCross Go.Proofs.YtaifhinhdjldmaaW.PrintWords Go.Proofs.YtaifhinhdjldmaaW.PrintLast

theorem w64 {x : Int} (h0 : -9223372036854775808 ≤ x) (h1 : x ≤ 9223372036854775807) : wrap64 x = x := by
  unfold wrap64
  omega
theorem wf_i64 {x : Int} (h : (Lit.int .i64 x).wf = true) : -9223372036854775808 ≤ x ∧ x ≤ 9223372036854775807 := by
  simp [Lit.wf, IntKind.min, IntKind.max, IntKind.signed, IntKind.bits] at h
  omega

theorem within_eq (a b c : Int) : impl_within.f a b c = some (decide (b ≤ a ∧ a ≤ c)) := by
  unfold impl_within.f
  split <;> simp <;> omega

theorem l1In_eq (a b c : Int) : spec_l1In.f a b c = some (decide (b ≤ a ∧ a ≤ c)) := by
  unfold spec_l1In.f
  split <;> simp <;> omega

theorem some_f {p : Prop} [Decidable p] (h : ¬ p) : some false = some (decide p) := by rw [decide_eq_false h]
theorem some_t {p : Prop} [Decidable p] (h : p) : some true = some (decide p) := by rw [decide_eq_true h]
theorem some_d {p q : Prop} [Decidable p] [Decidable q] (h : p ↔ q) : some (decide p) = some (decide q) := by rw [decide_eq_decide.2 h]
theorem some_b {b : Bool} {p : Prop} [Decidable p] (h : b = true ↔ p) : some b = some (decide p) := by
  congr 1
  rw [Bool.eq_iff_iff, h, decide_eq_true_iff]

def IsDiag (n a b : Int) : Prop := 3 ≤ n ∧ n ≤ 12 ∧ 0 ≤ a ∧ b ≤ n - 1 ∧ 2 ≤ b - a ∧ b - a ≤ n - 2
instance (n a b : Int) : Decidable (IsDiag n a b) := by unfold IsDiag; infer_instance
theorem poIs_eq (n : Int) : spec_poIs.f n = some (decide (3 ≤ n ∧ n ≤ 12)) := by
  unfold spec_poIs.f
  simp only [l1In_eq, Option.bind_some]
theorem isPolygon_eq (n : Int) : impl_isPolygon.f n = some (decide (3 ≤ n ∧ n ≤ 12)) := by
  unfold impl_isPolygon.f
  simp only [within_eq, Option.bind_some]
theorem poDiagonal_eq (n a b : Int) : spec_poDiagonal.f n a b = some (decide (IsDiag n a b)) := by
  unfold spec_poDiagonal.f
  simp only [poIs_eq, l1In_eq, Option.bind_some, decide_eq_true_eq]
  by_cases hn : 3 ≤ n ∧ n ≤ 12
  · rw [if_pos hn, w64 (x := n - 1) (by omega) (by omega), w64 (x := n - 2) (by omega) (by omega)]
    by_cases ha : 0 ≤ a ∧ a ≤ n - 1
    · rw [if_pos ha]
      by_cases hb : 0 ≤ b ∧ b ≤ n - 1
      · rw [if_pos hb, w64 (x := b - a) (by omega) (by omega)]
        by_cases hc : b - a ≥ 2
        · rw [if_pos hc]; exact some_d (by unfold IsDiag; omega)
        · rw [if_neg hc]; exact some_f (by unfold IsDiag; omega)
      · rw [if_neg hb]; exact some_f (by unfold IsDiag; omega)
    · rw [if_neg ha]; exact some_f (by unfold IsDiag; omega)
  · rw [if_neg hn]; exact some_f (by unfold IsDiag; omega)
theorem isDiagonal_eq {n : Int} (hn : 3 ≤ n ∧ n ≤ 12) (a b : Int) : impl_isDiagonal.f n a b = some (decide (IsDiag n a b)) := by
  unfold impl_isDiagonal.f
  simp only [within_eq, Option.bind_some, decide_eq_true_eq]
  rw [w64 (x := n - 1) (by omega) (by omega)]
  by_cases ha : 0 ≤ a ∧ a ≤ n - 1
  · rw [if_pos ha]
    by_cases hb : 0 ≤ b ∧ b ≤ n - 1
    · rw [if_pos hb, w64 (x := b - a) (by omega) (by omega)]
      by_cases hc : b - a > 1
      · rw [if_pos hc]
        by_cases h0 : a = 0
        · rw [if_pos h0]; exact some_b (by unfold IsDiag; simp; omega)
        · rw [if_neg h0]; exact some_b (by unfold IsDiag; simp; omega)
      · rw [if_neg hc]; exact some_f (by unfold IsDiag; omega)
    · rw [if_neg hb]; exact some_f (by unfold IsDiag; omega)
  · rw [if_neg ha]; exact some_f (by unfold IsDiag; omega)

theorem impl_IsDiagonal_eq (n a b : Int) : impl_IsDiagonal.f n a b = some (decide (IsDiag n a b)) := by
  unfold impl_IsDiagonal.f
  simp only [isPolygon_eq, Option.bind_some, decide_eq_true_eq]
  by_cases hn : 3 ≤ n ∧ n ≤ 12
  · rw [if_pos hn, isDiagonal_eq hn]; rfl
  · rw [if_neg hn]; exact some_f (by unfold IsDiag; omega)

def Cross (a b c d : Int) : Prop := (a < c ∧ c < b ∧ b < d) ∨ (c < a ∧ a < d ∧ d < b)
instance (a b c d : Int) : Decidable (Cross a b c d) := by unfold Cross; infer_instance
theorem poCross_eq (a b c d : Int) : spec_poCross.f a b c d = some (decide (Cross a b c d)) := by
  unfold spec_poCross.f Cross
  (repeat' split) <;> first | exact some_t (by omega) | exact some_f (by omega) | exact some_d (by omega)
theorem doCross_eq (a b c d : Int) : impl_doCross.f a b c d = some (decide (Cross a b c d)) := by
  unfold impl_doCross.f Cross
  (repeat' split) <;> first | exact some_t (by omega) | exact some_f (by omega) | exact some_d (by omega)

theorem FnExactDoCross : laws_FnExactDoCross.Pure := by
  intro n a b c d _ _ _ _ _
  unfold laws_FnExactDoCross.f laws_toDiagonal.f spec_DoCross.f impl_DoCross.f
  simp only [Option.bind_some, poDiagonal_eq, impl_IsDiagonal_eq, poCross_eq, doCross_eq]
  by_cases h1 : IsDiag n a b <;> by_cases h2 : IsDiag n c d <;> simp [h1, h2]

end Go.Proofs.Ytaifhinhdjldmaa.Pure
