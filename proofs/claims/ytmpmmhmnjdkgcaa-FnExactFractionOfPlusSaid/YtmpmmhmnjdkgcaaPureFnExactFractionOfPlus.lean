/- The plain statement of FnExactFractionOfPlus, over numbers and lists: the program's answer is the reference's. -/
import Derived.Test.YtmpmmhmnjdkgcaaPFnExactFractionOfPlusx
set_option linter.unusedVariables false
set_option linter.unusedSimpArgs false
namespace Go.Proofs.Ytmpmmhmnjdkgcaa.Pure
open Go.RowKit Go.Proofs.Ytmpmmhmnjdkgcaa.PFnExactFractionOfPlus Go.Proofs.YtmpmmhmnjdkgcaaW.PrintWords Go.Proofs.YtmpmmhmnjdkgcaaW.PrintLast

theorem w64 {x : Int} (h0 : -9223372036854775808 ≤ x) (h1 : x ≤ 9223372036854775807) : wrap64 x = x := by
  unfold wrap64
  omega
theorem wf_i64 {x : Int} (h : (Lit.int .i64 x).wf = true) : -9223372036854775808 ≤ x ∧ x ≤ 9223372036854775807 := by
  simp [Lit.wf, IntKind.min, IntKind.max, IntKind.signed, IntKind.bits] at h
  omega

theorem rd_nat {l : List Int} {i : Nat} (h : i < l.length) : rd l (i : Int) = l[i] := by
  unfold rd
  rw [Int.toNat_natCast, List.getD_eq_getElem?_getD, List.getElem?_eq_getElem h]
  rfl
theorem rd_drop {l : List Int} {i : Nat} (h : i < l.length) : l.drop i = rd l (i : Int) :: l.drop (i + 1) := by
  rw [rd_nat h, ← List.drop_eq_getElem_cons h]
theorem wsucc {i n : Nat} (h : i < n) (hn : n ≤ 9223372036854775807) : wrap64 ((i : Int) + 1) = ((i + 1 : Nat) : Int) := by
  rw [w64 (by omega) (by omega)]
  omega
theorem ite_t {α : Sort _} {a b : α} : (if true = true then a else b) = a := if_pos rfl
theorem ite_f {α : Sort _} {a b : α} : (if false = true then a else b) = b := if_neg (by decide)
theorem fuel {k d : Nat} (h : d < k) : ∃ m, k = m + 1 ∧ d ≤ m := ⟨k - 1, by omega, by omega⟩

theorem toIntS_l0 (l : List Int) (hl : l.length ≤ 9223372036854775807) : ∀ (d k i : Nat) (m : List Int), i + d = l.length → d < k → m.length = l.length → m.take i = l.take i →
    laws_toIntS.l0 k l m (i : Int) = some l := by
  intro d
  induction d with
  | zero =>
    intro k i m hi hk hm ht
    obtain ⟨k, rfl, _⟩ := fuel hk
    simp only [laws_toIntS.l0]
    rw [if_neg (by omega)]
    rw [List.take_of_length_le (by omega), List.take_of_length_le (by omega)] at ht
    rw [ht]
  | succ d ih =>
    intro k i m hi hk hm ht
    obtain ⟨k, rfl, hk⟩ := fuel hk
    simp only [laws_toIntS.l0]
    rw [if_pos (by omega), if_pos (by omega), if_pos (by omega), wsucc (n := l.length) (by omega) hl, Int.toNat_natCast]
    refine ih k (i + 1) _ (by omega) (by omega) (by rw [List.length_set]; exact hm) ?_
    rw [rd_nat (by omega)]
    rw [List.take_succ_eq_append_getElem (by rw [List.length_set]; omega), List.take_succ_eq_append_getElem (by omega), List.take_set_of_le (by omega), ht, List.getElem_set_self]
theorem toIntS_eq {l : List Int} {k : Nat} (hl : l.length ≤ 1048576) (hk : l.length < k) : laws_toIntS.f k l = some l := by
  unfold laws_toIntS.f
  rw [if_pos (by omega), if_pos (by omega), Int.toNat_natCast]
  exact toIntS_l0 l (by omega) l.length k 0 _ (by omega) hk (by simp) (by simp)

theorem eqIntS_l0 (l : List Int) (hl : l.length ≤ 9223372036854775807) : ∀ (d k i : Nat), i + d = l.length → d < k → laws_eqIntS.l0 k l l (i : Int) = some true := by
  intro d
  induction d with
  | zero =>
    intro k i hi hk
    obtain ⟨k, rfl, _⟩ := fuel hk
    simp only [laws_eqIntS.l0]
    rw [if_neg (by omega)]
  | succ d ih =>
    intro k i hi hk
    obtain ⟨k, rfl, hk⟩ := fuel hk
    simp only [laws_eqIntS.l0]
    rw [if_pos (by omega), if_pos (by omega), if_pos (by omega), if_pos trivial, wsucc (n := l.length) (by omega) hl]
    exact ih k (i + 1) (by omega) (by omega)
theorem eqIntS_self {l : List Int} {k : Nat} (hl : l.length ≤ 9223372036854775807) (hk : l.length < k) : laws_eqIntS.f k l l = some true := by
  unfold laws_eqIntS.f
  rw [if_pos rfl]
  exact eqIntS_l0 l hl l.length k 0 (by omega) hk

theorem l1In_eq (a b c : Int) : spec_l1In.f a b c = some (decide (b ≤ a ∧ a ≤ c)) := by
  unfold spec_l1In.f
  split <;> simp <;> omega

def inAll (lo hi : Int) (l : List Int) : Bool := l.all fun x => decide (lo ≤ x ∧ x ≤ hi)
theorem l1All_l0 (lo up : Int) (l : List Int) (hl : l.length ≤ 9223372036854775807) : ∀ (d k i : Nat), i + d = l.length → d < k → spec_l1All.l0 k lo up l (l.length : Int) (i : Int) = some (inAll lo up (l.drop i)) := by
  intro d
  induction d with
  | zero =>
    intro k i hi hk
    obtain ⟨k, rfl, _⟩ := fuel hk
    simp only [spec_l1All.l0]
    rw [if_neg (by omega), List.drop_of_length_le (by omega)]
    rfl
  | succ d ih =>
    intro k i hi hk
    obtain ⟨k, rfl, hk⟩ := fuel hk
    simp only [spec_l1All.l0]
    rw [if_pos (by omega), if_pos (by omega), if_pos (by omega), l1In_eq, Option.bind_some, wsucc (n := l.length) (by omega) hl, rd_drop (by omega)]
    by_cases hx : lo ≤ rd l i ∧ rd l i ≤ up
    · rw [decide_eq_true hx, ite_t, ih k (i + 1) (by omega) (by omega)]
      simp [inAll, hx]
    · rw [decide_eq_false hx, ite_f]
      simp [inAll]
      omega
theorem l1All_eq {l : List Int} {k : Nat} (lo hi : Int) (hl : l.length ≤ 9223372036854775807) (hk : l.length < k) : spec_l1All.f k l lo hi = some (inAll lo hi l) := by
  unfold spec_l1All.f
  exact l1All_l0 lo hi l hl l.length k 0 (by omega) hk

theorem within_eq (a b c : Int) : impl_within.f a b c = some (decide (b ≤ a ∧ a ≤ c)) := by
  unfold impl_within.f
  split <;> simp <;> omega

def isTerms (l : List Int) : Bool := decide ((l.length : Int) ≤ 10) && inAll (-30) 30 l
theorem ctGood_eq {l : List Int} {k : Nat} (hl : l.length ≤ 9223372036854775807) (hk : l.length < k) : spec_ctGood.f k l = some (isTerms l) := by
  unfold spec_ctGood.f isTerms
  by_cases h : (l.length : Int) ≤ 10
  · rw [if_pos h, l1All_eq _ _ hl hk]
    simp [h]
  · rw [if_neg h]
    simp [h]
theorem idx_terms (l : List Int) (hl : l.length ≤ 9223372036854775807) : ∀ (d k i : Nat), i + d = l.length → d < k → ∃ j : Int, slices_IndexFunc_int_int__at_impl_IsTermList_1.l0 k l (l.length : Int) (i : Int) = some j ∧ decide (j ≥ 0) = !(inAll (-30) 30 (l.drop i)) := by
  intro d
  induction d with
  | zero =>
    intro k i hi hk
    obtain ⟨k, rfl, _⟩ := fuel hk
    simp only [slices_IndexFunc_int_int__at_impl_IsTermList_1.l0]
    rw [if_neg (by omega), List.drop_of_length_le (by omega)]
    exact ⟨-1, rfl, rfl⟩
  | succ d ih =>
    intro k i hi hk
    obtain ⟨k, rfl, hk⟩ := fuel hk
    simp only [slices_IndexFunc_int_int__at_impl_IsTermList_1.l0]
    rw [if_pos (by omega), if_pos (by omega), if_pos (by omega), wsucc (n := l.length) (by omega) hl, rd_drop (by omega)]
    unfold impl_IsTermList_1.f
    rw [within_eq, Option.bind_some, Option.bind_some]
    by_cases hx : -30 ≤ rd l i ∧ rd l i ≤ 30
    · rw [decide_eq_true hx, Bool.not_true, ite_f]
      obtain ⟨j, hj, he⟩ := ih k (i + 1) (by omega) (by omega)
      refine ⟨j, hj, ?_⟩
      rw [he]
      simp [inAll, hx]
    · rw [decide_eq_false hx, Bool.not_false, ite_t]
      refine ⟨_, rfl, ?_⟩
      rw [decide_eq_true (by omega)]
      simp [inAll]
      omega
theorem IsTermList_eq {l : List Int} {k : Nat} (hl : l.length ≤ 9223372036854775807) (hk : l.length < k) : impl_IsTermList.f k l = some (isTerms l) := by
  unfold impl_IsTermList.f isTerms
  by_cases h : (l.length : Int) ≤ 10
  · rw [if_pos h]
    unfold slices_ContainsFunc_int_int__at_impl_IsTermList_1.f slices_IndexFunc_int_int__at_impl_IsTermList_1.f
    obtain ⟨j, hj, he⟩ := idx_terms l hl l.length k 0 (by omega) hk
    rw [Int.natCast_zero] at hj
    rw [hj, Option.bind_some, Option.bind_some, he]
    simp [h]
  · rw [if_neg h]
    simp [h]

theorem Min_l0 (l : List Int) (hl : l.length ≤ 9223372036854775807) : ∀ (d k i : Nat) (m : Int), i + d = l.length → d < k → (∃ j, j < i ∧ l[j]? = some m) → (∀ j x, j < i → l[j]? = some x → m ≤ x) →
    ∃ r, slices_Min_int_int.l0 k l m (i : Int) = some r ∧ r ∈ l ∧ ∀ x ∈ l, r ≤ x := by
  intro d
  induction d with
  | zero =>
    intro k i m hi hk ⟨j, hj, hm⟩ ha
    obtain ⟨k, rfl, _⟩ := fuel hk
    simp only [slices_Min_int_int.l0]
    rw [if_neg (by omega)]
    refine ⟨m, rfl, List.mem_of_getElem? hm, fun x hx => ?_⟩
    obtain ⟨q, hq⟩ := List.mem_iff_getElem?.1 hx
    have := (List.getElem?_eq_some_iff.1 hq).1
    exact ha q x (by omega) hq
  | succ d ih =>
    intro k i m hi hk ⟨j, hj, hm⟩ ha
    obtain ⟨k, rfl, hk⟩ := fuel hk
    simp only [slices_Min_int_int.l0]
    rw [if_pos (by omega), if_pos (by omega), wsucc (n := l.length) (by omega) hl, rd_nat (by omega)]
    have hget : l[i]? = some l[i] := List.getElem?_eq_getElem (by omega)
    refine ih k (i + 1) _ (by omega) (by omega) ?_ ?_
    · unfold mn
      split
      · exact ⟨i, by omega, hget⟩
      · exact ⟨j, by omega, hm⟩
    · intro q x hq hx
      unfold mn
      by_cases e : q = i
      · subst e
        rw [hget] at hx
        obtain rfl := Option.some.inj hx
        split <;> omega
      · have := ha q x (by omega) hx
        split <;> omega
theorem Min_eq {l : List Int} {k : Nat} (h0 : 0 < l.length) (hl : l.length ≤ 9223372036854775807) (hk : l.length < k) : ∃ r, slices_Min_int_int.f k l = some r ∧ r ∈ l ∧ ∀ x ∈ l, r ≤ x := by
  unfold slices_Min_int_int.f
  rw [if_neg (by omega), if_pos (by omega)]
  have e0 : rd l 0 = l[0] := rd_nat (i := 0) h0
  rw [e0]
  have hget : l[0]? = some l[0] := List.getElem?_eq_getElem h0
  exact Min_l0 l hl (l.length - 1) k 1 l[0] (by omega) (by omega) ⟨0, by omega, hget⟩ (fun j x hj hx => by
    obtain rfl : j = 0 := by omega
    rw [hget] at hx
    obtain rfl := Option.some.inj hx
    omega)

theorem terms_mem {l : List Int} (h : isTerms l = true) : l.length ≤ 10 ∧ ∀ x ∈ l, -30 ≤ x ∧ x ≤ 30 := by
  unfold isTerms inAll at h
  simp only [Bool.and_eq_true, decide_eq_true_eq, List.all_eq_true] at h
  exact ⟨by omega, h.2⟩
theorem small_mul {a p : Int} {B : Nat} (ha : -30 ≤ a ∧ a ≤ 30) (hp : p.natAbs ≤ B) : (a * p).natAbs ≤ 30 * B := by
  rw [Int.natAbs_mul]
  exact Nat.mul_le_mul (by omega) hp
theorem fraction_l0 (l : List Int) (s : Int) (hs : s = 1 ∨ s = -1) (hl : ∀ x ∈ l, -30 ≤ x ∧ x ≤ 30) (hn : l.length ≤ 10) : ∀ (d k : Nat) (p q P Q : Int) (B : Nat), d ≤ l.length → d < k → p.natAbs ≤ B → q.natAbs ≤ B → 1 ≤ q → B * 31 ^ d ≤ 1000000000000000 →
    ((P = p ∧ Q = q) ∨ (P = -p ∧ Q = -q)) → ∃ r, impl_fraction.l0 k l s P Q ((d : Int) - 1) = some r ∧ spec_ctFraction.l0 k l s p q ((d : Int) - 1) = some r := by
  intro d
  induction d with
  | zero =>
    intro k p q P Q B hd hk hp hq h1 hB hPQ
    obtain ⟨k, rfl, _⟩ := fuel hk
    simp only [impl_fraction.l0, spec_ctFraction.l0]
    rw [Nat.pow_zero, Nat.mul_one] at hB
    simp only [if_neg (show ¬ (((0 : Nat) : Int) - 1 ≥ 0) by omega)]
    refine ⟨_, ?_, rfl⟩
    rcases hPQ with ⟨rfl, rfl⟩ | ⟨rfl, rfl⟩
    · rw [if_neg (by omega)]
    · rw [if_pos (by omega), Int.neg_neg, Int.neg_neg, w64 (by omega) (by omega), w64 (by omega) (by omega)]
  | succ d ih =>
    intro k p q P Q B hd hk hp hq h1 hB hPQ
    obtain ⟨k, rfl, hk⟩ := fuel hk
    have hB1 : B * 31 * 31 ^ d ≤ 1000000000000000 := by rw [Nat.mul_assoc, ← Nat.pow_succ']; exact hB
    have hB0 : B * 31 ≤ 1000000000000000 := Nat.le_trans (Nat.le_mul_of_pos_right _ (Nat.pos_of_ne_zero (by simp))) hB1
    have ei : (((d + 1 : Nat) : Int) - 1) = (d : Int) := by omega
    rw [ei]
    simp only [impl_fraction.l0, spec_ctFraction.l0]
    simp only [if_pos (show (d : Int) ≥ 0 by omega), if_pos (show (0 : Int) ≤ d by omega), if_pos (show (d : Int) < l.length by omega)]
    by_cases hz : p = 0
    · rw [if_pos hz, if_pos (show P = 0 by omega)]
      exact ⟨_, rfl, rfl⟩
    · rw [if_neg hz, if_neg (show ¬ P = 0 by omega), w64 (x := (d : Int) - 1) (by omega) (by omega), rd_nat (by omega)]
      have ha := hl l[d] (List.getElem_mem (by omega))
      generalize l[d] = a at ha
      have h2 := small_mul ha hp
      have h3 : (s * q).natAbs ≤ B := by rcases hs with rfl | rfl <;> simp <;> omega
      have e1 : wrap64 (wrap64 (a * p) + wrap64 (s * q)) = a * p + s * q := by
        rw [w64 (x := a * p) (by omega) (by omega), w64 (x := s * q) (by omega) (by omega), w64 (by omega) (by omega)]
      have e2 : wrap64 (wrap64 (a * -p) + wrap64 (s * -q)) = -(a * p + s * q) := by
        rw [Int.mul_neg, Int.mul_neg, w64 (x := -(a * p)) (by omega) (by omega), w64 (x := -(s * q)) (by omega) (by omega), w64 (by omega) (by omega)]
        omega
      rw [e1]
      have hn1 : (a * p + s * q).natAbs ≤ B * 31 := by omega
      by_cases hneg : p < 0
      · rw [if_pos hneg, w64 (x := -(a * p + s * q)) (by omega) (by omega), w64 (x := -p) (by omega) (by omega)]
        rcases hPQ with ⟨rfl, rfl⟩ | ⟨rfl, rfl⟩
        · rw [e1]
          refine ih k _ _ _ _ (B * 31) (by omega) (by omega) ?_ ?_ ?_ hB1 (.inr ⟨?_, ?_⟩) <;> omega
        · rw [e2]
          refine ih k _ _ _ _ (B * 31) (by omega) (by omega) ?_ ?_ ?_ hB1 (.inl ⟨rfl, rfl⟩) <;> omega
      · rw [if_neg hneg]
        rcases hPQ with ⟨rfl, rfl⟩ | ⟨rfl, rfl⟩
        · rw [e1]
          refine ih k _ _ _ _ (B * 31) (by omega) (by omega) ?_ ?_ ?_ hB1 (.inl ⟨rfl, rfl⟩) <;> omega
        · rw [e2]
          refine ih k _ _ _ _ (B * 31) (by omega) (by omega) ?_ ?_ ?_ hB1 (.inr ⟨rfl, rfl⟩) <;> omega
theorem fraction_same {l : List Int} {s : Int} {k : Nat} (hs : s = 1 ∨ s = -1) (h : isTerms l = true) (h0 : 0 < l.length) (hk : l.length < k) : ∃ r, impl_fraction.f k l s = some r ∧ spec_ctFraction.f k l s = some r := by
  obtain ⟨hn, hl⟩ := terms_mem h
  unfold impl_fraction.f spec_ctFraction.f
  rw [w64 (x := (l.length : Int) - 1) (by omega) (by omega), w64 (x := (l.length : Int) - 2) (by omega) (by omega)]
  simp only [if_pos (show 0 ≤ (l.length : Int) - 1 by omega), if_pos (show (l.length : Int) - 1 < l.length by omega)]
  have e : (l.length : Int) - 1 = ((l.length - 1 : Nat) : Int) := by omega
  have e2 : (l.length : Int) - 2 = ((l.length - 1 : Nat) : Int) - 1 := by omega
  rw [e2, e, rd_nat (by omega)]
  have ha := hl l[l.length - 1] (List.getElem_mem (by omega))
  have hp : 31 ^ (l.length - 1) ≤ 31 ^ 9 := Nat.pow_le_pow_right (by omega) (by omega)
  exact fraction_l0 l s hs hl hn (l.length - 1) k _ 1 _ 1 30 (by omega) (by omega) (by omega) (by omega) (by omega) (by omega) (.inl ⟨rfl, rfl⟩)

theorem ctPositive_eq {l : List Int} {k : Nat} (hl : l.length ≤ 9223372036854775807) (hk : l.length < k) : spec_ctPositive.f k l = some (isTerms l && decide (0 < l.length) && inAll 1 30 l) := by
  unfold spec_ctPositive.f
  rw [ctGood_eq hl hk]
  cases isTerms l with
  | false => simp
  | true =>
    simp only [Option.bind_some, if_true]
    by_cases h0 : 0 < l.length
    · rw [if_pos (by omega), l1All_eq _ _ hl hk]
      simp [h0]
    · rw [if_neg (by omega)]
      simp [h0]
theorem FnExactFractionOfPlus : laws_FnExactFractionOfPlus.Pure := by
  intro l _ _
  refine ⟨l.length + 5, ?_⟩
  unfold laws_FnExactFractionOfPlus.f
  by_cases h : (l.length : Int) > 1048576
  · rw [if_pos h]
  · rw [if_neg h]
    have hl : l.length ≤ 1048576 := by omega
    have hres : ∃ r, spec_FractionOfPlus.f (l.length + 5) l = some r ∧ impl_FractionOfPlus.f (l.length + 5) l = some r := by
      unfold spec_FractionOfPlus.f impl_FractionOfPlus.f impl_areFrom.f
      rw [ctPositive_eq (by omega) (by omega), IsTermList_eq (by omega) (by omega)]
      cases hT : isTerms l with
      | false => exact ⟨(0, 0, false), by simp, by simp⟩
      | true =>
        simp only [Option.bind_some, if_true]
        by_cases h0 : l.length = 0
        · exact ⟨(0, 0, false), by simp [h0], by simp [h0]⟩
        · obtain ⟨r, h1, h2⟩ := fraction_same (s := 1) (k := l.length + 5) (.inl rfl) hT (by omega) (by omega)
          obtain ⟨m, hm, hmem, hle⟩ := Min_eq (l := l) (k := l.length + 5) (by omega) (by omega) (by omega)
          have hm2 := (terms_mem hT).2
          have e : inAll 1 30 l = decide (m ≥ 1) := by
            rw [Bool.eq_iff_iff]
            simp only [inAll, List.all_eq_true, decide_eq_true_eq]
            constructor
            · intro h; exact (h m hmem).1
            · intro h x hx; have := hle x hx; have := hm2 x hx; omega
          rw [hm, h1, h2, e]
          simp only [Option.bind_some, if_pos (show (l.length : Int) > 0 by omega), decide_eq_true (show 0 < l.length by omega), Bool.true_and]
          by_cases hg : m ≥ 1
          · exact ⟨r, by simp [hg, show 0 < l.length by omega], by simp [hg]⟩
          · exact ⟨(0, 0, false), by simp [hg], by simp [hg]⟩
    obtain ⟨⟨a, b, c⟩, hS, hI⟩ := hres
    rw [toIntS_eq hl (by omega), Option.bind_some, hS, Option.bind_some, Option.bind_some, hI, Option.bind_some]
    simp [laws_FnExactFractionOfPlus.j0, toIntS_eq hl (show l.length < l.length + 4 by omega), eqIntS_self (l := l) (by omega) (show l.length < l.length + 4 by omega)]

end Go.Proofs.Ytmpmmhmnjdkgcaa.Pure
