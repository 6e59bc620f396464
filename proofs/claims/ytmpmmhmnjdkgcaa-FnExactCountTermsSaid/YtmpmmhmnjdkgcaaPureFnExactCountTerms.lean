/- The plain statement of FnExactCountTerms, over numbers and lists: the program's answer is the reference's. -/
import Derived.Test.YtmpmmhmnjdkgcaaPFnExactCountTermsx
set_option linter.unusedVariables false
set_option linter.unusedSimpArgs false
namespace Go.Proofs.Ytmpmmhmnjdkgcaa.Pure
open Go.RowKit Go.Proofs.Ytmpmmhmnjdkgcaa.PFnExactCountTerms Go.Proofs.YtmpmmhmnjdkgcaaW.PrintWords Go.Proofs.YtmpmmhmnjdkgcaaW.PrintLast

theorem within_eq (a b c : Int) : impl_within.f a b c = some (decide (b ≤ a ∧ a ≤ c)) := by
  unfold impl_within.f
  split <;> simp <;> omega

theorem l1In_eq (a b c : Int) : spec_l1In.f a b c = some (decide (b ≤ a ∧ a ≤ c)) := by
  unfold spec_l1In.f
  split <;> simp <;> omega

theorem w64 {x : Int} (h0 : -9223372036854775808 ≤ x) (h1 : x ≤ 9223372036854775807) : wrap64 x = x := by
  unfold wrap64
  omega
theorem wf_i64 {x : Int} (h : (Lit.int .i64 x).wf = true) : -9223372036854775808 ≤ x ∧ x ≤ 9223372036854775807 := by
  simp [Lit.wf, IntKind.min, IntKind.max, IntKind.signed, IntKind.bits] at h
  omega

theorem count_fin : ∀ i : Fin 11, laws_FnExactCountTerms.f 100 ((i : Nat) : Int) = some true := by decide +kernel
theorem FnExactCountTerms : laws_FnExactCountTerms.Pure := by
  intro n _
  refine ⟨100, ?_⟩
  by_cases h : 0 ≤ n ∧ n ≤ 10
  · have := count_fin ⟨n.toNat, by omega⟩
    simpa [Int.toNat_of_nonneg h.1] using this
  · unfold laws_FnExactCountTerms.f spec_CountTerms.f impl_CountTerms.f
    simp only [l1In_eq, within_eq, Option.bind_some, decide_eq_true_eq, if_neg h]
    simp

end Go.Proofs.Ytmpmmhmnjdkgcaa.Pure
