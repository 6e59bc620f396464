/- The plain statement of FnExactPlusContinuantOf, over numbers and lists: the program's answer is the reference's. -/
import Derived.Test.YtmpmmhmnjdkgcaaPFnExactPlusContinuantOfx
set_option linter.unusedVariables false
set_option linter.unusedSimpArgs false
namespace Go.Proofs.Ytmpmmhmnjdkgcaa.Pure
open Go.RowKit Go.Proofs.Ytmpmmhmnjdkgcaa.PFnExactPlusContinuantOf Go.Proofs.YtmpmmhmnjdkgcaaW.PrintWords Go.Proofs.YtmpmmhmnjdkgcaaW.PrintLast

theorem w64 {x : Int} (h0 : -9223372036854775808 ≤ x) (h1 : x ≤ 9223372036854775807) : wrap64 x = x := by
  unfold wrap64
  omega
theorem wf_i64 {x : Int} (h : (Lit.int .i64 x).wf = true) : -9223372036854775808 ≤ x ∧ x ≤ 9223372036854775807 := by
  simp [Lit.wf, IntKind.min, IntKind.max, IntKind.signed, IntKind.bits] at h
  omega

theorem rd_nat {l : List Int} {i : Nat} (h : i < l.length) : rd l (i : Int) = l[i] := by
  unfold rd
  rw [Int.toNat_natCast, List.getD_eq_getElem?_getD, List.getElem?_eq_getElem h]
  rfl
theorem rd_drop {l : List Int} {i : Nat} (h : i < l.length) : l.drop i = rd l (i : Int) :: l.drop (i + 1) := by
  rw [rd_nat h, ← List.drop_eq_getElem_cons h]
theorem wsucc {i n : Nat} (h : i < n) (hn : n ≤ 9223372036854775807) : wrap64 ((i : Int) + 1) = ((i + 1 : Nat) : Int) := by
  rw [w64 (by omega) (by omega)]
  omega
theorem ite_t {α : Sort _} {a b : α} : (if true = true then a else b) = a := if_pos rfl
theorem ite_f {α : Sort _} {a b : α} : (if false = true then a else b) = b := if_neg (by decide)
theorem fuel {k d : Nat} (h : d < k) : ∃ m, k = m + 1 ∧ d ≤ m := ⟨k - 1, by omega, by omega⟩

theorem toIntS_l0 (l : List Int) (hl : l.length ≤ 9223372036854775807) : ∀ (d k i : Nat) (m : List Int), i + d = l.length → d < k → m.length = l.length → m.take i = l.take i →
    laws_toIntS.l0 k l m (i : Int) = some l := by
  intro d
  induction d with
  | zero =>
    intro k i m hi hk hm ht
    obtain ⟨k, rfl, _⟩ := fuel hk
    simp only [laws_toIntS.l0]
    rw [if_neg (by omega)]
    rw [List.take_of_length_le (by omega), List.take_of_length_le (by omega)] at ht
    rw [ht]
  | succ d ih =>
    intro k i m hi hk hm ht
    obtain ⟨k, rfl, hk⟩ := fuel hk
    simp only [laws_toIntS.l0]
    rw [if_pos (by omega), if_pos (by omega), if_pos (by omega), wsucc (n := l.length) (by omega) hl, Int.toNat_natCast]
    refine ih k (i + 1) _ (by omega) (by omega) (by rw [List.length_set]; exact hm) ?_
    rw [rd_nat (by omega)]
    rw [List.take_succ_eq_append_getElem (by rw [List.length_set]; omega), List.take_succ_eq_append_getElem (by omega), List.take_set_of_le (by omega), ht, List.getElem_set_self]
theorem toIntS_eq {l : List Int} {k : Nat} (hl : l.length ≤ 1048576) (hk : l.length < k) : laws_toIntS.f k l = some l := by
  unfold laws_toIntS.f
  rw [if_pos (by omega), if_pos (by omega), Int.toNat_natCast]
  exact toIntS_l0 l (by omega) l.length k 0 _ (by omega) hk (by simp) (by simp)

theorem eqIntS_l0 (l : List Int) (hl : l.length ≤ 9223372036854775807) : ∀ (d k i : Nat), i + d = l.length → d < k → laws_eqIntS.l0 k l l (i : Int) = some true := by
  intro d
  induction d with
  | zero =>
    intro k i hi hk
    obtain ⟨k, rfl, _⟩ := fuel hk
    simp only [laws_eqIntS.l0]
    rw [if_neg (by omega)]
  | succ d ih =>
    intro k i hi hk
    obtain ⟨k, rfl, hk⟩ := fuel hk
    simp only [laws_eqIntS.l0]
    rw [if_pos (by omega), if_pos (by omega), if_pos (by omega), if_pos trivial, wsucc (n := l.length) (by omega) hl]
    exact ih k (i + 1) (by omega) (by omega)
theorem eqIntS_self {l : List Int} {k : Nat} (hl : l.length ≤ 9223372036854775807) (hk : l.length < k) : laws_eqIntS.f k l l = some true := by
  unfold laws_eqIntS.f
  rw [if_pos rfl]
  exact eqIntS_l0 l hl l.length k 0 (by omega) hk

theorem l1In_eq (a b c : Int) : spec_l1In.f a b c = some (decide (b ≤ a ∧ a ≤ c)) := by
  unfold spec_l1In.f
  split <;> simp <;> omega

def inAll (lo hi : Int) (l : List Int) : Bool := l.all fun x => decide (lo ≤ x ∧ x ≤ hi)
theorem l1All_l0 (lo up : Int) (l : List Int) (hl : l.length ≤ 9223372036854775807) : ∀ (d k i : Nat), i + d = l.length → d < k → spec_l1All.l0 k lo up l (l.length : Int) (i : Int) = some (inAll lo up (l.drop i)) := by
  intro d
  induction d with
  | zero =>
    intro k i hi hk
    obtain ⟨k, rfl, _⟩ := fuel hk
    simp only [spec_l1All.l0]
    rw [if_neg (by omega), List.drop_of_length_le (by omega)]
    rfl
  | succ d ih =>
    intro k i hi hk
    obtain ⟨k, rfl, hk⟩ := fuel hk
    simp only [spec_l1All.l0]
    rw [if_pos (by omega), if_pos (by omega), if_pos (by omega), l1In_eq, Option.bind_some, wsucc (n := l.length) (by omega) hl, rd_drop (by omega)]
    by_cases hx : lo ≤ rd l i ∧ rd l i ≤ up
    · rw [decide_eq_true hx, ite_t, ih k (i + 1) (by omega) (by omega)]
      simp [inAll, hx]
    · rw [decide_eq_false hx, ite_f]
      simp [inAll]
      omega
theorem l1All_eq {l : List Int} {k : Nat} (lo hi : Int) (hl : l.length ≤ 9223372036854775807) (hk : l.length < k) : spec_l1All.f k l lo hi = some (inAll lo hi l) := by
  unfold spec_l1All.f
  exact l1All_l0 lo hi l hl l.length k 0 (by omega) hk

theorem within_eq (a b c : Int) : impl_within.f a b c = some (decide (b ≤ a ∧ a ≤ c)) := by
  unfold impl_within.f
  split <;> simp <;> omega

def isTerms (l : List Int) : Bool := decide ((l.length : Int) ≤ 10) && inAll (-30) 30 l
theorem ctGood_eq {l : List Int} {k : Nat} (hl : l.length ≤ 9223372036854775807) (hk : l.length < k) : spec_ctGood.f k l = some (isTerms l) := by
  unfold spec_ctGood.f isTerms
  by_cases h : (l.length : Int) ≤ 10
  · rw [if_pos h, l1All_eq _ _ hl hk]
    simp [h]
  · rw [if_neg h]
    simp [h]
theorem idx_terms (l : List Int) (hl : l.length ≤ 9223372036854775807) : ∀ (d k i : Nat), i + d = l.length → d < k → ∃ j : Int, slices_IndexFunc_int_int__at_impl_IsTermList_1.l0 k l (l.length : Int) (i : Int) = some j ∧ decide (j ≥ 0) = !(inAll (-30) 30 (l.drop i)) := by
  intro d
  induction d with
  | zero =>
    intro k i hi hk
    obtain ⟨k, rfl, _⟩ := fuel hk
    simp only [slices_IndexFunc_int_int__at_impl_IsTermList_1.l0]
    rw [if_neg (by omega), List.drop_of_length_le (by omega)]
    exact ⟨-1, rfl, rfl⟩
  | succ d ih =>
    intro k i hi hk
    obtain ⟨k, rfl, hk⟩ := fuel hk
    simp only [slices_IndexFunc_int_int__at_impl_IsTermList_1.l0]
    rw [if_pos (by omega), if_pos (by omega), if_pos (by omega), wsucc (n := l.length) (by omega) hl, rd_drop (by omega)]
    unfold impl_IsTermList_1.f
    rw [within_eq, Option.bind_some, Option.bind_some]
    by_cases hx : -30 ≤ rd l i ∧ rd l i ≤ 30
    · rw [decide_eq_true hx, Bool.not_true, ite_f]
      obtain ⟨j, hj, he⟩ := ih k (i + 1) (by omega) (by omega)
      refine ⟨j, hj, ?_⟩
      rw [he]
      simp [inAll, hx]
    · rw [decide_eq_false hx, Bool.not_false, ite_t]
      refine ⟨_, rfl, ?_⟩
      rw [decide_eq_true (by omega)]
      simp [inAll]
      omega
theorem IsTermList_eq {l : List Int} {k : Nat} (hl : l.length ≤ 9223372036854775807) (hk : l.length < k) : impl_IsTermList.f k l = some (isTerms l) := by
  unfold impl_IsTermList.f isTerms
  by_cases h : (l.length : Int) ≤ 10
  · rw [if_pos h]
    unfold slices_ContainsFunc_int_int__at_impl_IsTermList_1.f slices_IndexFunc_int_int__at_impl_IsTermList_1.f
    obtain ⟨j, hj, he⟩ := idx_terms l hl l.length k 0 (by omega) hk
    rw [Int.natCast_zero] at hj
    rw [hj, Option.bind_some, Option.bind_some, he]
    simp [h]
  · rw [if_neg h]
    simp [h]

def contStep (s : Int) (p : Int × Int) (x : Int) : Int × Int := (p.2, wrap64 (wrap64 (x * p.2) + wrap64 (s * p.1)))
def contOf (s : Int) (l : List Int) : Int := (l.foldl (contStep s) (0, 1)).2
theorem ctValue_l0 (s : Int) (l : List Int) (hl : l.length ≤ 9223372036854775807) : ∀ (d k i : Nat) (p q : Int), i + d = l.length → d < k →
    spec_ctValue.l0 k s p q l (l.length : Int) (i : Int) = some ((l.drop i).foldl (contStep s) (p, q)).2 := by
  intro d
  induction d with
  | zero =>
    intro k i p q hi hk
    obtain ⟨k, rfl, _⟩ := fuel hk
    simp only [spec_ctValue.l0]
    rw [if_neg (by omega), List.drop_of_length_le (by omega)]
    rfl
  | succ d ih =>
    intro k i p q hi hk
    obtain ⟨k, rfl, hk⟩ := fuel hk
    simp only [spec_ctValue.l0]
    rw [if_pos (by omega), if_pos (by omega), if_pos (by omega), wsucc (n := l.length) (by omega) hl, ih k (i + 1) _ _ (by omega) (by omega), rd_drop (l := l) (i := i) (by omega)]
    rfl
theorem ctValue_eq {l : List Int} {k : Nat} (s : Int) (hl : l.length ≤ 9223372036854775807) (hk : l.length < k) : spec_ctValue.f k l s = some (contOf s l) := by
  unfold spec_ctValue.f
  exact ctValue_l0 s l hl l.length k 0 0 1 (by omega) hk
theorem continuant_l0 (s : Int) (l : List Int) : ∀ (k : Nat) (p q i : Int), impl_continuant.l0 k s p q l (l.length : Int) i = spec_ctValue.l0 k s p q l (l.length : Int) i := by
  intro k
  induction k with
  | zero => intro p q i; rfl
  | succ k ih =>
    intro p q i
    simp only [impl_continuant.l0, spec_ctValue.l0, ih]
theorem continuant_eq {l : List Int} {k : Nat} (s : Int) (hl : l.length ≤ 9223372036854775807) (hk : l.length < k) : impl_continuant.f k l s = some (contOf s l) := by
  rw [← ctValue_eq s hl hk]
  unfold spec_ctValue.f impl_continuant.f
  exact continuant_l0 s l k 0 1 0

theorem FnExactPlusContinuantOf : laws_FnExactPlusContinuantOf.Pure := by
  intro l _ _
  refine ⟨l.length + 2, ?_⟩
  unfold laws_FnExactPlusContinuantOf.f
  by_cases h : (l.length : Int) > 1048576
  · rw [if_pos h]
  · rw [if_neg h]
    have hl : l.length ≤ 1048576 := by omega
    unfold spec_PlusContinuantOf.f impl_PlusContinuantOf.f
    simp only [toIntS_eq hl (show l.length < l.length + 2 by omega), ctGood_eq (l := l) (by omega) (show l.length < l.length + 2 by omega), IsTermList_eq (l := l) (by omega) (show l.length < l.length + 2 by omega), ctValue_eq (l := l) 1 (by omega) (show l.length < l.length + 2 by omega), continuant_eq (l := l) 1 (by omega) (show l.length < l.length + 2 by omega), Option.bind_some]
    cases isTerms l <;> simp [laws_FnExactPlusContinuantOf.j0, toIntS_eq hl (show l.length < l.length + 1 by omega), eqIntS_self (l := l) (by omega) (show l.length < l.length + 1 by omega)]

end Go.Proofs.Ytmpmmhmnjdkgcaa.Pure
