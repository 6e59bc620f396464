/- The plain statement of FnExactTermsOf, over numbers and lists: the program's answer is the reference's. -/
import Derived.Test.YtmpmmhmnjdkgcaaPFnExactTermsOfx
set_option linter.unusedVariables false
set_option linter.unusedSimpArgs false
namespace Go.Proofs.Ytmpmmhmnjdkgcaa.Pure
open Go.RowKit Go.Proofs.Ytmpmmhmnjdkgcaa.PFnExactTermsOf Go.Proofs.YtmpmmhmnjdkgcaaW.PrintWords Go.Proofs.YtmpmmhmnjdkgcaaW.PrintLast

theorem wrap_ex (a : Int) : ∃ c, wrap64 a = a + 18446744073709551616 * c := ⟨-((a + 9223372036854775808) / 18446744073709551616), by unfold wrap64; omega⟩
theorem wrap_more (x y : Int) : wrap64 (x + 18446744073709551616 * y) = wrap64 x := by unfold wrap64; omega
theorem wrap_mul (a b : Int) : wrap64 (wrap64 a * b) = wrap64 (a * b) := by
  obtain ⟨c, h⟩ := wrap_ex a
  rw [h, Int.add_mul, Int.mul_assoc, wrap_more]
theorem wrap_neg (a : Int) : wrap64 (-(wrap64 a)) = wrap64 (-a) := by
  obtain ⟨c, h⟩ := wrap_ex a
  rw [h, Int.neg_add, show -(18446744073709551616 * c) = 18446744073709551616 * (-c) by omega, wrap_more]

theorem w64 {x : Int} (h0 : -9223372036854775808 ≤ x) (h1 : x ≤ 9223372036854775807) : wrap64 x = x := by
  unfold wrap64
  omega
theorem wf_i64 {x : Int} (h : (Lit.int .i64 x).wf = true) : -9223372036854775808 ≤ x ∧ x ≤ 9223372036854775807 := by
  simp [Lit.wf, IntKind.min, IntKind.max, IntKind.signed, IntKind.bits] at h
  omega

theorem rd_nat {l : List Int} {i : Nat} (h : i < l.length) : rd l (i : Int) = l[i] := by
  unfold rd
  rw [Int.toNat_natCast, List.getD_eq_getElem?_getD, List.getElem?_eq_getElem h]
  rfl
theorem rd_drop {l : List Int} {i : Nat} (h : i < l.length) : l.drop i = rd l (i : Int) :: l.drop (i + 1) := by
  rw [rd_nat h, ← List.drop_eq_getElem_cons h]
theorem wsucc {i n : Nat} (h : i < n) (hn : n ≤ 9223372036854775807) : wrap64 ((i : Int) + 1) = ((i + 1 : Nat) : Int) := by
  rw [w64 (by omega) (by omega)]
  omega
theorem ite_t {α : Sort _} {a b : α} : (if true = true then a else b) = a := if_pos rfl
theorem ite_f {α : Sort _} {a b : α} : (if false = true then a else b) = b := if_neg (by decide)
theorem fuel {k d : Nat} (h : d < k) : ∃ m, k = m + 1 ∧ d ≤ m := ⟨k - 1, by omega, by omega⟩

def hasI (l : List Int) (x : Int) : Bool := l.any fun y => decide (y = x)
theorem indexI_l0 (l : List Int) (hl : l.length ≤ 1000) (x : Int) : ∀ (d k i : Nat), i + d = l.length → d < k → ∃ j : Int, slices_Index_int_int.l0 k l x (l.length : Int) (i : Int) = some j ∧ decide (j ≥ 0) = hasI (l.drop i) x := by
  intro d
  induction d with
  | zero =>
    intro k i hi hk
    obtain ⟨k, rfl, _⟩ := fuel hk
    simp only [slices_Index_int_int.l0]
    rw [if_neg (by omega), List.drop_of_length_le (by omega)]
    exact ⟨-1, rfl, rfl⟩
  | succ d ih =>
    intro k i hi hk
    obtain ⟨k, rfl, hk⟩ := fuel hk
    simp only [slices_Index_int_int.l0]
    rw [if_pos (by omega), if_pos (by omega), if_pos (by omega), wsucc (n := l.length) (by omega) (by omega), rd_drop (l := l) (i := i) (by omega)]
    unfold hasI
    rw [List.any_cons]
    by_cases h : x = rd l (i : Int)
    · rw [if_pos h, decide_eq_true h.symm, Bool.true_or]
      exact ⟨_, rfl, decide_eq_true (by omega)⟩
    · rw [if_neg h, decide_eq_false (fun e => h e.symm), Bool.false_or]
      exact ih k (i + 1) (by omega) (by omega)
theorem containsI_eq (l : List Int) (hl : l.length ≤ 1000) (x : Int) {k : Nat} (hk : l.length < k) : slices_Contains_int_int.f k l x = some (hasI l x) := by
  obtain ⟨j, h1, h2⟩ := indexI_l0 l hl x l.length k 0 (by omega) hk
  rw [Int.natCast_zero] at h1
  unfold slices_Contains_int_int.f slices_Index_int_int.f
  rw [h1, Option.bind_some, h2, List.drop_zero]
theorem l1In_eq (a b c : Int) : spec_l1In.f a b c = some (decide (b ≤ a ∧ a ≤ c)) := by
  unfold spec_l1In.f
  split <;> simp <;> omega

def inAll (lo hi : Int) (l : List Int) : Bool := l.all fun x => decide (lo ≤ x ∧ x ≤ hi)
theorem l1All_l0 (lo up : Int) (l : List Int) (hl : l.length ≤ 9223372036854775807) : ∀ (d k i : Nat), i + d = l.length → d < k → spec_l1All.l0 k lo up l (l.length : Int) (i : Int) = some (inAll lo up (l.drop i)) := by
  intro d
  induction d with
  | zero =>
    intro k i hi hk
    obtain ⟨k, rfl, _⟩ := fuel hk
    simp only [spec_l1All.l0]
    rw [if_neg (by omega), List.drop_of_length_le (by omega)]
    rfl
  | succ d ih =>
    intro k i hi hk
    obtain ⟨k, rfl, hk⟩ := fuel hk
    simp only [spec_l1All.l0]
    rw [if_pos (by omega), if_pos (by omega), if_pos (by omega), l1In_eq, Option.bind_some, wsucc (n := l.length) (by omega) hl, rd_drop (by omega)]
    by_cases hx : lo ≤ rd l i ∧ rd l i ≤ up
    · rw [decide_eq_true hx, ite_t, ih k (i + 1) (by omega) (by omega)]
      simp [inAll, hx]
    · rw [decide_eq_false hx, ite_f]
      simp [inAll]
      omega
theorem l1All_eq {l : List Int} {k : Nat} (lo hi : Int) (hl : l.length ≤ 9223372036854775807) (hk : l.length < k) : spec_l1All.f k l lo hi = some (inAll lo hi l) := by
  unfold spec_l1All.f
  exact l1All_l0 lo hi l hl l.length k 0 (by omega) hk

theorem within_eq (a b c : Int) : impl_within.f a b c = some (decide (b ≤ a ∧ a ≤ c)) := by
  unfold impl_within.f
  split <;> simp <;> omega

def isTerms (l : List Int) : Bool := decide ((l.length : Int) ≤ 10) && inAll (-30) 30 l
theorem ctGood_eq {l : List Int} {k : Nat} (hl : l.length ≤ 9223372036854775807) (hk : l.length < k) : spec_ctGood.f k l = some (isTerms l) := by
  unfold spec_ctGood.f isTerms
  by_cases h : (l.length : Int) ≤ 10
  · rw [if_pos h, l1All_eq _ _ hl hk]
    simp [h]
  · rw [if_neg h]
    simp [h]
theorem idx_terms (l : List Int) (hl : l.length ≤ 9223372036854775807) : ∀ (d k i : Nat), i + d = l.length → d < k → ∃ j : Int, slices_IndexFunc_int_int__at_impl_IsTermList_1.l0 k l (l.length : Int) (i : Int) = some j ∧ decide (j ≥ 0) = !(inAll (-30) 30 (l.drop i)) := by
  intro d
  induction d with
  | zero =>
    intro k i hi hk
    obtain ⟨k, rfl, _⟩ := fuel hk
    simp only [slices_IndexFunc_int_int__at_impl_IsTermList_1.l0]
    rw [if_neg (by omega), List.drop_of_length_le (by omega)]
    exact ⟨-1, rfl, rfl⟩
  | succ d ih =>
    intro k i hi hk
    obtain ⟨k, rfl, hk⟩ := fuel hk
    simp only [slices_IndexFunc_int_int__at_impl_IsTermList_1.l0]
    rw [if_pos (by omega), if_pos (by omega), if_pos (by omega), wsucc (n := l.length) (by omega) hl, rd_drop (by omega)]
    unfold impl_IsTermList_1.f
    rw [within_eq, Option.bind_some, Option.bind_some]
    by_cases hx : -30 ≤ rd l i ∧ rd l i ≤ 30
    · rw [decide_eq_true hx, Bool.not_true, ite_f]
      obtain ⟨j, hj, he⟩ := ih k (i + 1) (by omega) (by omega)
      refine ⟨j, hj, ?_⟩
      rw [he]
      simp [inAll, hx]
    · rw [decide_eq_false hx, Bool.not_false, ite_t]
      refine ⟨_, rfl, ?_⟩
      rw [decide_eq_true (by omega)]
      simp [inAll]
      omega
theorem IsTermList_eq {l : List Int} {k : Nat} (hl : l.length ≤ 9223372036854775807) (hk : l.length < k) : impl_IsTermList.f k l = some (isTerms l) := by
  unfold impl_IsTermList.f isTerms
  by_cases h : (l.length : Int) ≤ 10
  · rw [if_pos h]
    unfold slices_ContainsFunc_int_int__at_impl_IsTermList_1.f slices_IndexFunc_int_int__at_impl_IsTermList_1.f
    obtain ⟨j, hj, he⟩ := idx_terms l hl l.length k 0 (by omega) hk
    rw [Int.natCast_zero] at hj
    rw [hj, Option.bind_some, Option.bind_some, he]
    simp [h]
  · rw [if_neg h]
    simp [h]

def prodI : List Int → Int
  | [] => 1
  | a :: t => a * prodI t
/-- The parts of a continuant behind the first, times p: exact numbers. -/
def tlP : List Int → Int → List Int
  | a :: b :: t, p => (-p * prodI t :: tlP t (-p)) ++ tlP (b :: t) (p * a)
  | _, _ => []
def tmP (l : List Int) (p : Int) : List Int := p * prodI l :: tlP l p
theorem tlP_len : ∀ (l : List Int) (p : Int), (tlP l p).length + 1 ≤ 2 ^ l.length
  | [], _ => by simp [tlP]
  | [_], _ => by simp [tlP]
  | a :: b :: t, p => by
    have h1 := tlP_len t (-p)
    have h2 := tlP_len (b :: t) (p * a)
    rw [tlP, List.length_append, List.length_cons, List.length_cons, List.length_cons, Nat.pow_succ, Nat.pow_succ]
    rw [List.length_cons, Nat.pow_succ] at h2
    omega
theorem drop_two {l : List Int} {i : Nat} (h : i + 1 < l.length) : l.drop i = rd l (i : Int) :: rd l ((i + 1 : Nat) : Int) :: l.drop (i + 2) := by
  rw [rd_drop (l := l) (i := i) (by omega), rd_drop (l := l) (i := i + 1) (by omega)]
theorem tlP_short {l : List Int} {i : Nat} (h : l.length ≤ i + 1) (p : Int) : tlP (l.drop i) p = [] := by
  have hl : (l.drop i).length ≤ 1 := by rw [List.length_drop]; omega
  match l.drop i, hl with
  | [], _ => rfl
  | [_], _ => rfl
  | _ :: _ :: _, h => simp at h
theorem wrapAll (a b : List Int) : a.map wrap64 ++ b.map wrap64 = (a ++ b).map wrap64 := List.map_append.symm
theorem ctTerms_l0 (l : List Int) (hl : l.length ≤ 10) (from_ : Nat) (p0 : Int) (x2 : Int) : ∀ (d k i : Nat) (q : Int), i + d = (l.drop from_).length →
    spec_ctTerms.l0 (k + d + 1) l (from_ : Int) x2 (wrap64 q) (l.drop from_) ((l.drop from_).length : Int) (i : Int) = spec_ctTerms.l1 k l x2 [wrap64 (q * prodI ((l.drop from_).drop i))] (from_ : Int) := by
  have hb : (l.drop from_).length ≤ 10 := by rw [List.length_drop]; omega
  intro d
  induction d with
  | zero =>
    intro k i q hi
    simp only [spec_ctTerms.l0]
    rw [if_neg (by omega), List.drop_of_length_le (l := l.drop from_) (by omega), prodI, Int.mul_one]
  | succ d ih =>
    intro k i q hi
    obtain ⟨z, hz⟩ : ∃ z, z = k + d + 1 := ⟨_, rfl⟩
    rw [show k + (d + 1) + 1 = z + 1 by omega]
    simp only [spec_ctTerms.l0]
    rw [if_pos (by omega), if_pos (by omega), if_pos (by omega), wrap_mul, wsucc (n := (l.drop from_).length) (by omega) (by omega), hz, ih k (i + 1) _ (by omega), rd_drop (l := l.drop from_) (i := i) (by omega), prodI, Int.mul_assoc]
theorem ctTerms_l1 (l : List Int) (hl : l.length ≤ 10) : ∀ (m : Nat), (∀ (k i : Nat) (p : Int) (acc : List Int), i + m = l.length → 14 * m + 25 ≤ k → acc.length + (tlP (l.drop i) p).length ≤ 5000 →
      spec_ctTerms.l1 k l (wrap64 p) acc (i : Int) = some (acc ++ (tlP (l.drop i) p).map wrap64)) ∧
    (∀ (k i : Nat) (p : Int), i + m = l.length → 15 * m + 40 ≤ k → spec_ctTerms.f k l (i : Int) (wrap64 p) = some ((tmP (l.drop i) p).map wrap64)) := by
  intro m
  induction m using Nat.strongRecOn with
  | _ m ih =>
  have h1 : ∀ (k i : Nat) (p : Int) (acc : List Int), i + m = l.length → 14 * m + 25 ≤ k → acc.length + (tlP (l.drop i) p).length ≤ 5000 →
      spec_ctTerms.l1 k l (wrap64 p) acc (i : Int) = some (acc ++ (tlP (l.drop i) p).map wrap64) := by
    intro k i p acc hi hk ha
    obtain ⟨k, rfl⟩ : ∃ z, k = z + 1 := ⟨k - 1, by omega⟩
    simp only [spec_ctTerms.l1]
    rw [w64 (x := (i : Int) + 1) (by omega) (by omega)]
    by_cases h : i + 1 < l.length
    · have hd := drop_two h
      have hd1 : l.drop (i + 1) = rd l ((i + 1 : Nat) : Int) :: l.drop (i + 2) := rd_drop (by omega)
      have e : tlP (l.drop i) p = tmP (l.drop (i + 2)) (-p) ++ tlP (l.drop (i + 1)) (p * rd l (i : Int)) := by rw [hd, tlP, hd1]; rfl
      have hf := (ih (m - 2) (by omega)).2 k (i + 2) (-p) (by omega) (by omega)
      have hlen := tlP_len (l.drop (i + 2)) (-p)
      have hp2 : 2 ^ (l.drop (i + 2)).length ≤ 2 ^ 10 := Nat.pow_le_pow_right (by omega) (by rw [List.length_drop]; omega)
      rw [e, List.length_append] at ha
      rw [if_pos (by omega), w64 (x := (i : Int) + 2) (by omega) (by omega), show (i : Int) + 2 = ((i + 2 : Nat) : Int) by omega, wrap_neg, hf, Option.bind_some, if_pos (by rw [List.length_map]; omega), if_pos (by omega), if_pos (by omega), wrap_mul, show (i : Int) + 1 = ((i + 1 : Nat) : Int) by omega,
        (ih (m - 1) (by omega)).1 k (i + 1) (p * rd l (i : Int)) _ (by omega) (by omega) (by rw [List.length_append, List.length_map]; omega), e, List.append_assoc, wrapAll]
    · rw [if_neg (by omega), tlP_short (by omega), List.map_nil, List.append_nil]
  refine ⟨h1, fun k i p hi hk => ?_⟩
  obtain ⟨k, rfl⟩ : ∃ z, k = z + 1 := ⟨k - 1, by omega⟩
  have hd : (l.drop i).length = m := by rw [List.length_drop]; omega
  obtain ⟨z, hz⟩ : ∃ z, k = z + m + 1 := ⟨k - m - 1, by omega⟩
  have hlen := tlP_len (l.drop i) p
  have hp2 : 2 ^ (l.drop i).length ≤ 2 ^ 10 := Nat.pow_le_pow_right (by omega) (by omega)
  have h2 := ctTerms_l0 l hl i 0 (wrap64 p) m z 0 p (by omega)
  rw [Int.natCast_zero, ← hz, List.drop_zero] at h2
  simp only [spec_ctTerms.f]
  rw [if_pos (by omega), if_pos (by omega), Int.toNat_natCast, h2, h1 z i p _ hi (by omega) (by rw [List.length_singleton]; omega)]
  rfl
/-- Covered by a pair. -/
def covd (P : List Int) (i : Nat) : Bool := hasI P (i : Int) || hasI P ((i : Int) - 1)
def upTo (P l : List Int) : Nat → Int
  | 0 => 1
  | i + 1 => upTo P l i * (if covd P i = true then 1 else rd l (i : Int))
def sgP (P : List Int) : Int := if (P.length : Int) % 2 = 1 then -1 else 1
theorem hasI_app (P : List Int) (x y : Int) : hasI (P ++ [x]) y = (hasI P y || decide (x = y)) := by
  unfold hasI
  rw [List.any_append, List.any_cons, List.any_nil, Bool.or_false]
theorem hasI_no {P : List Int} {y : Int} (h : ∀ x ∈ P, x ≠ y) : hasI P y = false := by
  unfold hasI
  rw [List.any_eq_false]
  intro x hx e
  exact h x hx (of_decide_eq_true e)
theorem upTo_app (P l : List Int) (i : Nat) : ∀ j, j ≤ i → upTo (P ++ [(i : Int)]) l j = upTo P l j
  | 0, _ => rfl
  | j + 1, h => by
    rw [upTo, upTo, upTo_app P l i j (by omega)]
    unfold covd
    rw [hasI_app, hasI_app, decide_eq_false (show ¬ ((i : Int) = (j : Int)) by omega), decide_eq_false (show ¬ ((i : Int) = (j : Int) - 1) by omega), Bool.or_false, Bool.or_false]
theorem upTo_two (P l : List Int) (i : Nat) : upTo (P ++ [(i : Int)]) l (i + 2) = upTo P l i := by
  have h1 : covd (P ++ [(i : Int)]) i = true := by unfold covd; rw [hasI_app, decide_eq_true rfl]; simp
  have h2 : covd (P ++ [(i : Int)]) (i + 1) = true := by unfold covd; rw [hasI_app, hasI_app, decide_eq_true (show (i : Int) = ((i + 1 : Nat) : Int) - 1 by omega)]; simp
  rw [upTo, upTo, h1, h2, if_pos rfl, if_pos rfl, Int.mul_one, Int.mul_one, upTo_app P l i i (Nat.le_refl _)]
theorem covd_no {P : List Int} {i : Nat} (h : ∀ x ∈ P, x + 2 ≤ (i : Int)) {j : Nat} (hj : i ≤ j) : covd P j = false := by
  unfold covd
  rw [hasI_no (fun x hx => by have := h x hx; omega), hasI_no (fun x hx => by have := h x hx; omega)]
  rfl
theorem upTo_end {P l : List Int} {i : Nat} (h : ∀ x ∈ P, x + 2 ≤ (i : Int)) : ∀ (d j : Nat), i ≤ j → j + d = l.length → upTo P l l.length = upTo P l j * prodI (l.drop j)
  | 0, j, _, hj => by rw [List.drop_of_length_le (by omega), prodI, Int.mul_one, show j = l.length by omega]
  | d + 1, j, hij, hj => by
    rw [upTo_end h d (j + 1) (by omega) (by omega), upTo, covd_no h hij, if_neg (by decide), rd_drop (l := l) (i := j) (by omega), prodI, Int.mul_assoc]
theorem sgP_app (P : List Int) (x : Int) : sgP (P ++ [x]) = -sgP P := by
  unfold sgP
  rw [List.length_append, List.length_singleton]
  split <;> split <;> omega
theorem parts_l0 (l P : List Int) (hl : l.length ≤ 10) (hP : P.length ≤ 20) (a2 : Int) : ∀ (d k i : Nat), i + d = l.length → 30 ≤ k →
    impl_parts.l0 (k + d + 1) l P a2 (wrap64 (upTo P l i)) l (l.length : Int) (i : Int) = impl_parts.j1 k l P a2 (wrap64 (sgP P * upTo P l l.length)) := by
  intro d
  induction d with
  | zero =>
    intro k i hi hk
    simp only [impl_parts.l0]
    rw [if_neg (by omega), show i = l.length by omega]
    unfold sgP
    by_cases h : (P.length : Int) % 2 = 1
    · rw [if_pos h, if_pos h, wrap_neg, Int.neg_mul, Int.one_mul]
    · rw [if_neg h, if_neg h, Int.one_mul]
  | succ d ih =>
    intro k i hi hk
    obtain ⟨z, hz⟩ : ∃ z, z = k + d + 1 := ⟨_, rfl⟩
    have hi2 := ih k (i + 1) (by omega) hk
    rw [← hz, upTo] at hi2
    unfold covd at hi2
    rw [show k + (d + 1) + 1 = z + 1 by omega]
    simp only [impl_parts.l0]
    rw [if_pos (by omega), if_pos (by omega), if_pos (by omega), containsI_eq P (by omega) _ (by omega), Option.bind_some, w64 (x := (i : Int) - 1) (by omega) (by omega), containsI_eq P (by omega) _ (by omega), Option.bind_some, wsucc (n := l.length) (by omega) (by omega), wrap_mul]
    cases h1 : hasI P (i : Int) with
    | true =>
      rw [h1, Bool.true_or, if_pos rfl, Int.mul_one] at hi2
      rw [if_pos rfl]
      exact hi2
    | false =>
      rw [h1, Bool.false_or] at hi2
      rw [if_neg (by decide)]
      cases h2 : hasI P ((i : Int) - 1) with
      | true =>
        rw [h2, if_pos rfl, Int.mul_one] at hi2
        rw [if_pos rfl]
        exact hi2
      | false =>
        rw [h2, if_neg (by decide)] at hi2
        rw [if_neg (by decide)]
        exact hi2
theorem parts_l1 (l : List Int) (hl : l.length ≤ 10) : ∀ (m : Nat), (∀ (k i : Nat) (P acc : List Int), i + m = l.length → 15 * m + 100 ≤ k → (∀ x ∈ P, x + 2 ≤ (i : Int)) → P.length ≤ i → acc.length + (tlP (l.drop i) (sgP P * upTo P l i)).length ≤ 5000 →
      impl_parts.l1 k l P acc (i : Int) = some (acc ++ (tlP (l.drop i) (sgP P * upTo P l i)).map wrap64)) ∧
    (∀ (k i : Nat) (P : List Int), i + m = l.length → 15 * m + 120 ≤ k → (∀ x ∈ P, x + 2 ≤ (i : Int)) → P.length ≤ i → impl_parts.f k l P (i : Int) = some ((tmP (l.drop i) (sgP P * upTo P l i)).map wrap64)) := by
  intro m
  induction m using Nat.strongRecOn with
  | _ m ih =>
  have h1 : ∀ (k i : Nat) (P acc : List Int), i + m = l.length → 15 * m + 100 ≤ k → (∀ x ∈ P, x + 2 ≤ (i : Int)) → P.length ≤ i → acc.length + (tlP (l.drop i) (sgP P * upTo P l i)).length ≤ 5000 →
      impl_parts.l1 k l P acc (i : Int) = some (acc ++ (tlP (l.drop i) (sgP P * upTo P l i)).map wrap64) := by
    intro k i P acc hi hk hP hPl ha
    obtain ⟨k, rfl⟩ : ∃ z, k = z + 1 := ⟨k - 1, by omega⟩
    simp only [impl_parts.l1]
    rw [w64 (x := (i : Int) + 1) (by omega) (by omega)]
    by_cases h : i + 1 < l.length
    · have hd := drop_two h
      have hd1 : l.drop (i + 1) = rd l ((i + 1 : Nat) : Int) :: l.drop (i + 2) := rd_drop (by omega)
      have e1 : sgP (P ++ [(i : Int)]) * upTo (P ++ [(i : Int)]) l (i + 2) = -(sgP P * upTo P l i) := by rw [sgP_app, upTo_two, Int.neg_mul]
      have e2 : sgP P * upTo P l (i + 1) = sgP P * upTo P l i * rd l (i : Int) := by rw [upTo, covd_no hP (Nat.le_refl _), if_neg (by decide), Int.mul_assoc]
      have e : tlP (l.drop i) (sgP P * upTo P l i) = tmP (l.drop (i + 2)) (-(sgP P * upTo P l i)) ++ tlP (l.drop (i + 1)) (sgP P * upTo P l i * rd l (i : Int)) := by rw [hd, tlP, hd1]; rfl
      have hf := (ih (m - 2) (by omega)).2 k (i + 2) (P ++ [(i : Int)]) (by omega) (by omega) (by
        intro x hx
        rcases List.mem_append.1 hx with hx | hx
        · have := hP x hx; omega
        · rw [List.mem_singleton] at hx; omega) (by rw [List.length_append, List.length_singleton]; omega)
      rw [e1] at hf
      have hlen := tlP_len (l.drop (i + 2)) (-(sgP P * upTo P l i))
      have hp2 : 2 ^ (l.drop (i + 2)).length ≤ 2 ^ 10 := Nat.pow_le_pow_right (by omega) (by rw [List.length_drop]; omega)
      rw [e, List.length_append] at ha
      have hn := (ih (m - 1) (by omega)).1 k (i + 1) P (acc ++ (tmP (l.drop (i + 2)) (-(sgP P * upTo P l i))).map wrap64) (by omega) (by omega) (fun x hx => by have := hP x hx; omega) (by omega) (by rw [List.length_append, List.length_map, e2]; omega)
      rw [e2] at hn
      have ho : impl_parts_at_own.f P = some P := rfl
      rw [if_pos (by omega), ho, Option.bind_some, if_pos (show P.length < 17592186044416 by omega), w64 (x := (i : Int) + 2) (by omega) (by omega), show (i : Int) + 2 = ((i + 2 : Nat) : Int) by omega, hf, Option.bind_some, if_pos (by rw [List.length_map]; omega), show (i : Int) + 1 = ((i + 1 : Nat) : Int) by omega, hn, e, List.append_assoc, wrapAll]
    · rw [if_neg (by omega), tlP_short (by omega), List.map_nil, List.append_nil]
  refine ⟨h1, fun k i P hi hk hP hPl => ?_⟩
  obtain ⟨k, rfl⟩ : ∃ z, k = z + 1 := ⟨k - 1, by omega⟩
  obtain ⟨z, hz⟩ : ∃ z, k = (z + 1) + l.length + 1 := ⟨k - l.length - 2, by omega⟩
  have hlen := tlP_len (l.drop i) (sgP P * upTo P l i)
  have hp2 : 2 ^ (l.drop i).length ≤ 2 ^ 10 := Nat.pow_le_pow_right (by omega) (by rw [List.length_drop]; omega)
  have h2 := parts_l0 l P hl (by omega) (i : Int) l.length (z + 1) 0 (by omega) (by omega)
  rw [Int.natCast_zero, ← hz, upTo, w64 (x := 1) (by omega) (by omega)] at h2
  simp only [impl_parts.f]
  rw [h2]
  simp only [impl_parts.j1]
  rw [h1 z i P _ hi (by omega) hP hPl (by rw [List.length_singleton]; omega), upTo_end hP (l.length - i) i (Nat.le_refl _) (by omega), ← Int.mul_assoc]
  rfl
/-- The parts of the continuant of terms. -/
def partsOf (l : List Int) : List Int × Bool := if isTerms l = true then ((tmP l 1).map wrap64, true) else ([], false)
theorem isTerms_le {l : List Int} (h : isTerms l = true) : l.length ≤ 10 := by
  unfold isTerms at h
  rw [Bool.and_eq_true, decide_eq_true_iff] at h
  omega
theorem partsOf_len (l : List Int) : (partsOf l).1.length ≤ 1024 := by
  unfold partsOf
  split
  · rename_i h
    have h1 := isTerms_le h
    have h2 := tlP_len l 1
    have hp2 : 2 ^ l.length ≤ 2 ^ 10 := Nat.pow_le_pow_right (by omega) h1
    show ((tmP l 1).map wrap64).length ≤ 1024
    rw [List.length_map]
    show (tlP l 1).length + 1 ≤ 1024
    omega
  · simp
theorem spec_terms {l : List Int} (hl : l.length ≤ 1048576) {k : Nat} (hk : l.length + 400 ≤ k) : spec_TermsOf.f k l = some (partsOf l) := by
  unfold spec_TermsOf.f partsOf
  rw [ctGood_eq (by omega) (by omega), Option.bind_some]
  cases h : isTerms l with
  | false => rfl
  | true =>
    have h1 := isTerms_le h
    have h2 := (ctTerms_l1 l h1 l.length).2 k 0 1 (by omega) (by omega)
    rw [Int.natCast_zero, w64 (x := 1) (by omega) (by omega), List.drop_zero] at h2
    rw [if_pos rfl, if_pos rfl, h2]
    rfl
theorem impl_terms {l : List Int} (hl : l.length ≤ 1048576) {k : Nat} (hk : l.length + 400 ≤ k) : impl_TermsOf.f k l = some (partsOf l) := by
  unfold impl_TermsOf.f partsOf
  rw [IsTermList_eq (by omega) (by omega), Option.bind_some]
  cases h : isTerms l with
  | false => rfl
  | true =>
    have h1 := isTerms_le h
    have h2 := (parts_l1 l h1 l.length).2 k 0 [] (by omega) (by omega) (fun x hx => absurd hx List.not_mem_nil) (by simp)
    rw [Int.natCast_zero, List.drop_zero] at h2
    rw [if_pos rfl, if_pos rfl, h2]
    rfl

theorem toIntS_l0 (l : List Int) (hl : l.length ≤ 9223372036854775807) : ∀ (d k i : Nat) (m : List Int), i + d = l.length → d < k → m.length = l.length → m.take i = l.take i →
    laws_toIntS.l0 k l m (i : Int) = some l := by
  intro d
  induction d with
  | zero =>
    intro k i m hi hk hm ht
    obtain ⟨k, rfl, _⟩ := fuel hk
    simp only [laws_toIntS.l0]
    rw [if_neg (by omega)]
    rw [List.take_of_length_le (by omega), List.take_of_length_le (by omega)] at ht
    rw [ht]
  | succ d ih =>
    intro k i m hi hk hm ht
    obtain ⟨k, rfl, hk⟩ := fuel hk
    simp only [laws_toIntS.l0]
    rw [if_pos (by omega), if_pos (by omega), if_pos (by omega), wsucc (n := l.length) (by omega) hl, Int.toNat_natCast]
    refine ih k (i + 1) _ (by omega) (by omega) (by rw [List.length_set]; exact hm) ?_
    rw [rd_nat (by omega)]
    rw [List.take_succ_eq_append_getElem (by rw [List.length_set]; omega), List.take_succ_eq_append_getElem (by omega), List.take_set_of_le (by omega), ht, List.getElem_set_self]
theorem toIntS_eq {l : List Int} {k : Nat} (hl : l.length ≤ 1048576) (hk : l.length < k) : laws_toIntS.f k l = some l := by
  unfold laws_toIntS.f
  rw [if_pos (by omega), if_pos (by omega), Int.toNat_natCast]
  exact toIntS_l0 l (by omega) l.length k 0 _ (by omega) hk (by simp) (by simp)

theorem eqIntS_l0 (l : List Int) (hl : l.length ≤ 9223372036854775807) : ∀ (d k i : Nat), i + d = l.length → d < k → laws_eqIntS.l0 k l l (i : Int) = some true := by
  intro d
  induction d with
  | zero =>
    intro k i hi hk
    obtain ⟨k, rfl, _⟩ := fuel hk
    simp only [laws_eqIntS.l0]
    rw [if_neg (by omega)]
  | succ d ih =>
    intro k i hi hk
    obtain ⟨k, rfl, hk⟩ := fuel hk
    simp only [laws_eqIntS.l0]
    rw [if_pos (by omega), if_pos (by omega), if_pos (by omega), if_pos trivial, wsucc (n := l.length) (by omega) hl]
    exact ih k (i + 1) (by omega) (by omega)
theorem eqIntS_self {l : List Int} {k : Nat} (hl : l.length ≤ 9223372036854775807) (hk : l.length < k) : laws_eqIntS.f k l l = some true := by
  unfold laws_eqIntS.f
  rw [if_pos rfl]
  exact eqIntS_l0 l hl l.length k 0 (by omega) hk

def marked : Nat → Int → List Int
  | 0, _ => []
  | n + 1, j => j :: marked n (j + 1)
theorem marked_length : ∀ n j, (marked n j).length = n
  | 0, _ => rfl
  | n + 1, j => by rw [marked, List.length_cons, marked_length n]
theorem markIntS_l0 : ∀ (d k i : Nat) (l : List Int) (j : Int), i + d = l.length → d < k → l.length ≤ 1000000000 → 0 ≤ j → j + d ≤ 4000000000 →
    laws_markIntS.l0 k l j (i : Int) = some (j + d, l.take i ++ marked d j) := by
  intro d
  induction d with
  | zero =>
    intro k i l j hi hk hl hj hb
    obtain ⟨k, rfl, _⟩ := fuel hk
    simp only [laws_markIntS.l0]
    rw [if_neg (by omega), List.take_of_length_le (by omega)]
    simp [marked]
  | succ d ih =>
    intro k i l j hi hk hl hj hb
    obtain ⟨k, rfl, hk⟩ := fuel hk
    simp only [laws_markIntS.l0]
    rw [if_pos (by omega), if_pos (by omega), wsucc (n := l.length) (by omega) (by omega), w64 (x := j + 1) (by omega) (by omega), Int.toNat_natCast,
      ih k (i + 1) _ (j + 1) (by rw [List.length_set]; omega) (by omega) (by rw [List.length_set]; omega) (by omega) (by omega)]
    rw [List.take_succ_eq_append_getElem (by rw [List.length_set]; omega), List.getElem_set_self, List.take_set_of_le (by omega), marked, List.append_assoc]
    congr 2
    omega
theorem markIntS_eq {l : List Int} {k : Nat} (hk : l.length < k) (hl : l.length ≤ 1000000000) : laws_markIntS.f k l 1 = some (1 + (l.length : Int), marked l.length 1) := by
  unfold laws_markIntS.f
  have := markIntS_l0 l.length k 0 l 1 (by omega) hk hl (by omega) (by omega)
  simpa using this
theorem heldIntS_l0 (p : List Int) : ∀ (d k : Nat) (p : List Int) (j : Int), d < k → p.length + d ≤ 1000000000 → 0 ≤ j → j + d ≤ 4000000000 →
    laws_heldIntS.l0 k (p ++ marked d j) j (p.length : Int) = some (j + d) := by
  intro d
  induction d with
  | zero =>
    intro k p j hk hl hj hb
    obtain ⟨k, rfl, _⟩ := fuel hk
    simp only [laws_heldIntS.l0]
    rw [if_neg (by simp [marked])]
    simp
  | succ d ih =>
    intro k p j hk hl hj hb
    obtain ⟨k, rfl, hk⟩ := fuel hk
    simp only [laws_heldIntS.l0]
    have hlen : (p ++ marked (d + 1) j).length = p.length + (d + 1) := by rw [List.length_append, marked_length]
    have hr : rd (p ++ marked (d + 1) j) (p.length : Int) = j := by
      rw [rd_nat (by omega), List.getElem_append_right (Nat.le_refl _)]
      simp [marked]
    rw [if_pos (by omega), if_pos (by omega), if_pos hr, wsucc (n := p.length + (d + 1)) (by omega) (by omega), w64 (x := j + 1) (by omega) (by omega)]
    have h := ih k (p ++ [j]) (j + 1) (by omega) (by rw [List.length_append]; simp; omega) (by omega) (by omega)
    rw [List.length_append, List.length_singleton, List.append_assoc] at h
    rw [marked]
    refine h.trans ?_
    congr 1
    omega
theorem heldIntS_eq {n k : Nat} (hk : n < k) (hl : n ≤ 1000000000) : laws_heldIntS.f k (marked n 1) 1 = some (1 + (n : Int)) := by
  unfold laws_heldIntS.f
  exact heldIntS_l0 [] n k [] 1 hk (by simpa using hl) (by omega) (by omega)

theorem res (l : List Int) (hl : l.length ≤ 1048576) : ∃ q b, q.length ≤ 1024 ∧ ∀ k, l.length + 3000 ≤ k → spec_TermsOf.f k l = some (q, b) ∧ impl_TermsOf.f k l = some (q, b) :=
  ⟨(partsOf l).1, (partsOf l).2, partsOf_len l, fun k hk => ⟨spec_terms hl (by omega), impl_terms hl (by omega)⟩⟩
-- tail
theorem FnExactTermsOf : laws_FnExactTermsOf.Pure := by
  intro l _ hw
  refine ⟨l.length + 4000, ?_⟩
  unfold laws_FnExactTermsOf.f
  by_cases h : (l.length : Int) > 1048576
  · rw [if_pos h]
  · rw [if_neg h]
    have hl : l.length ≤ 1048576 := by omega
    obtain ⟨q, b, hq, hr⟩ := res l hl
    have hS : spec_TermsOf.f (l.length + 4000) l = some (q, b) := (hr _ (by omega)).1
    have hI : ∀ k, l.length + 3000 ≤ k → impl_TermsOf.f k l = some (q, b) := fun k hk => (hr k hk).2
    have hT : ∀ k, l.length < k → laws_toIntS.f k l = some l := fun k hk => toIntS_eq hl hk
    have hE : ∀ k, l.length < k → laws_eqIntS.f k l l = some true := fun k hk => eqIntS_self (by omega) hk
    have hM : ∀ k, l.length < k → laws_markIntS.f k l 1 = some (1 + (l.length : Int), marked l.length 1) := fun k hk => markIntS_eq hk (by omega)
    have n1 : ¬ (1 + (l.length : Int) < 0) := by omega
    have hQ : ∀ k, 1100 < k → laws_eqIntS.f k q q = some true := fun k hk => eqIntS_self (by omega) (by omega)
    have hMI : ∀ k, 1100 < k → laws_markIntS.f k q 1 = some (1 + (q.length : Int), marked q.length 1) := fun k hk => markIntS_eq (by omega) (by omega)
    have hHI : ∀ k, 1100 < k → laws_heldIntS.f k (marked q.length 1) 1 = some (1 + (q.length : Int)) := fun k hk => heldIntS_eq (by omega) (by omega)
    have n2 : ¬ (1 + (q.length : Int) < 0) := by omega
    repeat (first | dsimp only | rw [Option.bind_some] | rw [if_pos rfl] | rw [bne_self_eq_false] | rw [if_neg Bool.false_ne_true] | rw [hT _ (by omega)] | rw [hS] | rw [hI _ (by omega)] | rw [hE _ (by omega)] | rw [hM _ (by omega)] | rw [if_neg n1] | rw [hQ _ (by omega)] | rw [hMI _ (by omega)] | rw [hHI _ (by omega)] | rw [if_neg n2] | (simp only [laws_FnExactTermsOf.j0]) | (simp only [laws_FnExactTermsOf.j1]) | (simp only [laws_FnExactTermsOf.j2]))

end Go.Proofs.Ytmpmmhmnjdkgcaa.Pure
