/- The plain statement of FnExactIsConjugateBy, over numbers and lists: the program's answer is the reference's. -/
import Derived.Test.YtmpmmhmnjdkgcaaPFnExactIsConjugateByx
set_option linter.unusedVariables false
set_option linter.unusedSimpArgs false
namespace Go.Proofs.Ytmpmmhmnjdkgcaa.Pure
open Go.RowKit Go.Proofs.Ytmpmmhmnjdkgcaa.PFnExactIsConjugateBy Go.Proofs.YtmpmmhmnjdkgcaaW.PrintWords Go.Proofs.YtmpmmhmnjdkgcaaW.PrintLast

theorem w64 {x : Int} (h0 : -9223372036854775808 ≤ x) (h1 : x ≤ 9223372036854775807) : wrap64 x = x := by
  unfold wrap64
  omega
theorem wf_i64 {x : Int} (h : (Lit.int .i64 x).wf = true) : -9223372036854775808 ≤ x ∧ x ≤ 9223372036854775807 := by
  simp [Lit.wf, IntKind.min, IntKind.max, IntKind.signed, IntKind.bits] at h
  omega

theorem rd_nat {l : List Int} {i : Nat} (h : i < l.length) : rd l (i : Int) = l[i] := by
  unfold rd
  rw [Int.toNat_natCast, List.getD_eq_getElem?_getD, List.getElem?_eq_getElem h]
  rfl
theorem rd_drop {l : List Int} {i : Nat} (h : i < l.length) : l.drop i = rd l (i : Int) :: l.drop (i + 1) := by
  rw [rd_nat h, ← List.drop_eq_getElem_cons h]
theorem wsucc {i n : Nat} (h : i < n) (hn : n ≤ 9223372036854775807) : wrap64 ((i : Int) + 1) = ((i + 1 : Nat) : Int) := by
  rw [w64 (by omega) (by omega)]
  omega
theorem ite_t {α : Sort _} {a b : α} : (if true = true then a else b) = a := if_pos rfl
theorem ite_f {α : Sort _} {a b : α} : (if false = true then a else b) = b := if_neg (by decide)
theorem fuel {k d : Nat} (h : d < k) : ∃ m, k = m + 1 ∧ d ≤ m := ⟨k - 1, by omega, by omega⟩

theorem l1In_eq (a b c : Int) : spec_l1In.f a b c = some (decide (b ≤ a ∧ a ≤ c)) := by
  unfold spec_l1In.f
  split <;> simp <;> omega

def inAll (lo hi : Int) (l : List Int) : Bool := l.all fun x => decide (lo ≤ x ∧ x ≤ hi)
theorem l1All_l0 (lo up : Int) (l : List Int) (hl : l.length ≤ 9223372036854775807) : ∀ (d k i : Nat), i + d = l.length → d < k → spec_l1All.l0 k lo up l (l.length : Int) (i : Int) = some (inAll lo up (l.drop i)) := by
  intro d
  induction d with
  | zero =>
    intro k i hi hk
    obtain ⟨k, rfl, _⟩ := fuel hk
    simp only [spec_l1All.l0]
    rw [if_neg (by omega), List.drop_of_length_le (by omega)]
    rfl
  | succ d ih =>
    intro k i hi hk
    obtain ⟨k, rfl, hk⟩ := fuel hk
    simp only [spec_l1All.l0]
    rw [if_pos (by omega), if_pos (by omega), if_pos (by omega), l1In_eq, Option.bind_some, wsucc (n := l.length) (by omega) hl, rd_drop (by omega)]
    by_cases hx : lo ≤ rd l i ∧ rd l i ≤ up
    · rw [decide_eq_true hx, ite_t, ih k (i + 1) (by omega) (by omega)]
      simp [inAll, hx]
    · rw [decide_eq_false hx, ite_f]
      simp [inAll]
      omega
theorem l1All_eq {l : List Int} {k : Nat} (lo hi : Int) (hl : l.length ≤ 9223372036854775807) (hk : l.length < k) : spec_l1All.f k l lo hi = some (inAll lo hi l) := by
  unfold spec_l1All.f
  exact l1All_l0 lo hi l hl l.length k 0 (by omega) hk

theorem within_eq (a b c : Int) : impl_within.f a b c = some (decide (b ≤ a ∧ a ≤ c)) := by
  unfold impl_within.f
  split <;> simp <;> omega

theorem some_f {p : Prop} [Decidable p] (h : ¬ p) : some false = some (decide p) := by rw [decide_eq_false h]
theorem some_t {p : Prop} [Decidable p] (h : p) : some true = some (decide p) := by rw [decide_eq_true h]
theorem some_d {p q : Prop} [Decidable p] [Decidable q] (h : p ↔ q) : some (decide p) = some (decide q) := by rw [decide_eq_decide.2 h]
theorem some_b {b : Bool} {p : Prop} [Decidable p] (h : b = true ↔ p) : some b = some (decide p) := by
  congr 1
  rw [Bool.eq_iff_iff, h, decide_eq_true_iff]

def inEnt (a : Int) : Prop := -1000000000 ≤ a ∧ a ≤ 1000000000
instance (a : Int) : Decidable (inEnt a) := by unfold inEnt; infer_instance
def isMat (a b c d : Int) : Bool := decide (inEnt a ∧ inEnt b ∧ inEnt c ∧ inEnt d) && (wrap64 (wrap64 (a * d) - wrap64 (b * c)) == 1)
theorem isEntry_eq (a : Int) : impl_isEntry.f a = some (decide (inEnt a)) := by
  unfold impl_isEntry.f
  rw [within_eq]
  rfl
theorem IsMatrix_eq (a b c d : Int) : impl_IsMatrix.f a b c d = some (isMat a b c d) := by
  unfold impl_IsMatrix.f isMat
  simp only [isEntry_eq, Option.bind_some, decide_eq_true_eq]
  by_cases h1 : inEnt a <;> by_cases h2 : inEnt b <;> by_cases h3 : inEnt c <;> by_cases h4 : inEnt d <;> simp [h1, h2, h3, h4]
theorem mxGood_eq (a b c d : Int) {k : Nat} (hk : 4 < k) : spec_mxGood.f k a b c d = some (isMat a b c d) := by
  unfold spec_mxGood.f isMat
  rw [l1All_eq _ _ (by simp) (by simpa using hk), Option.bind_some]
  have e : inAll (-1000000000) 1000000000 [a, b, c, d] = decide (inEnt a ∧ inEnt b ∧ inEnt c ∧ inEnt d) := by
    unfold inEnt
    rw [Bool.eq_iff_iff]
    simp [inAll]
  rw [e]
  by_cases h : inEnt a ∧ inEnt b ∧ inEnt c ∧ inEnt d
  · rw [decide_eq_true h]; rfl
  · rw [decide_eq_false h]; rfl
theorem isMat_ent {a b c d : Int} (h : isMat a b c d = true) : inEnt a ∧ inEnt b ∧ inEnt c ∧ inEnt d := by
  unfold isMat at h
  simp only [Bool.and_eq_true, decide_eq_true_eq] at h
  exact h.1

theorem mxIf_eq (a b c d : Int) {k : Nat} (hk : 4 < k) : spec_mxIf.f k a b c d = some (if isMat a b c d = true then (a, b, c, d, true) else (0, 0, 0, 0, false)) := by
  unfold spec_mxIf.f
  rw [mxGood_eq _ _ _ _ hk, Option.bind_some]
  cases isMat a b c d <;> rfl
theorem checked_eq (a b c d : Int) : impl_checked.f a b c d = some (if isMat a b c d = true then (a, b, c, d, true) else (0, 0, 0, 0, false)) := by
  unfold impl_checked.f
  rw [IsMatrix_eq, Option.bind_some]
  cases isMat a b c d <;> rfl

theorem times_eq (a b c d e f g h : Int) : impl_times.f a b c d e f g h = spec_mxTimes.f a b c d e f g h := rfl

theorem isMat_inv {a b c d : Int} (h : isMat a b c d = true) : isMat d (wrap64 (-b)) (wrap64 (-c)) a = true := by
  obtain ⟨ha, hb, hc, hd⟩ := isMat_ent h
  have hb' := hb
  have hc' := hc
  unfold inEnt at hb' hc'
  rw [w64 (x := -b) (by omega) (by omega), w64 (x := -c) (by omega) (by omega)]
  unfold isMat at h ⊢
  simp only [Bool.and_eq_true, decide_eq_true_eq] at h ⊢
  refine ⟨⟨hd, ?_, ?_, ha⟩, ?_⟩
  · unfold inEnt; omega
  · unfold inEnt; omega
  · rw [Int.neg_mul_neg, Int.mul_comm d a]
    exact h.2
theorem impl_TimesMatrix_eq (a b c d e f g h : Int) (k : Nat) : impl_TimesMatrix.f (k + 1) a b c d e f g h =
    if isMat a b c d = true ∧ isMat e f g h = true then (spec_mxTimes.f a b c d e f g h).bind fun t => some (if isMat t.1 t.2.1 t.2.2.1 t.2.2.2 = true then (t.1, t.2.1, t.2.2.1, t.2.2.2, true) else (0, 0, 0, 0, false)) else some (0, 0, 0, 0, false) := by
  unfold impl_TimesMatrix.f
  simp only [IsMatrix_eq, Option.bind_some]
  cases isMat a b c d <;> cases isMat e f g h <;> simp [impl_TimesMatrix.j0, times_eq, checked_eq]
theorem FnExactIsConjugateBy : laws_FnExactIsConjugateBy.Pure := by
  intro a b c d e f g h i j k l _ _ _ _ _ _ _ _ _ _ _ _
  refine ⟨8, ?_⟩
  unfold laws_FnExactIsConjugateBy.f laws_toMatrix.f spec_IsConjugateBy.f impl_IsConjugateBy.f
  simp only [Option.bind_some, mxGood_eq _ _ _ _ (show 4 < 8 by decide), IsMatrix_eq, impl_TimesMatrix_eq]
  cases h1 : isMat a b c d with
  | false => simp [spec_IsConjugateBy.j0, impl_IsConjugateBy.j0]
  | true =>
    cases h3 : isMat i j k l with
    | false => cases isMat e f g h <;> simp [spec_IsConjugateBy.j0, impl_IsConjugateBy.j0]
    | true =>
      unfold spec_mxTimes.f
      simp only [and_self, if_true, Option.bind_some]
      cases h2 : isMat e f g h with
      | false =>
        simp only [Bool.false_eq_true, if_false, if_true, spec_IsConjugateBy.j0, impl_IsConjugateBy.j0, Option.bind_some, Bool.not_false]
        split <;> simp [impl_IsConjugateBy.j0]
      | true =>
        have hinv := isMat_inv h3
        simp only [if_true, spec_IsConjugateBy.j0, Bool.not_true, Bool.false_eq_true, if_false, Option.bind_some]
        unfold spec_mxTimes.f
        simp only [Option.bind_some, mxIf_eq _ _ _ _ (show 4 < 7 by decide)]
        generalize wrap64 (wrap64 (i * a) + wrap64 (j * c)) = p
        generalize wrap64 (wrap64 (i * b) + wrap64 (j * d)) = q
        generalize wrap64 (wrap64 (k * a) + wrap64 (l * c)) = r
        generalize wrap64 (wrap64 (k * b) + wrap64 (l * d)) = s
        cases h4 : isMat p q r s with
        | false => simp [impl_IsConjugateBy.j0]
        | true =>
          unfold spec_mxInverse.f impl_IsConjugateBy.j0 impl_inverse.f
          simp only [if_true, Option.bind_some, impl_TimesMatrix_eq, h4, hinv, and_self, Bool.false_eq_true, if_false, Bool.not_true]
          unfold spec_mxTimes.f
          simp only [Option.bind_some]
          split <;> simp

end Go.Proofs.Ytmpmmhmnjdkgcaa.Pure
